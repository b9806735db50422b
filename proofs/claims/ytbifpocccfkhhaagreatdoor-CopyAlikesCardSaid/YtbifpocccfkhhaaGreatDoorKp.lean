/- CopyAlikes: for all statements, in every laid world, the law returns true (its tied card). Conditions: none. -/
import Derived.Test.YtbifpocccfkhhaaGreatDoorKn
import Derived.Test.YtbifpocccfkhhaaGreatDoorKh
set_option linter.all false
noncomputable section
namespace Go.Proofs.YtbifpocccfkhhaaGreatDoor
open Go
section
variable {p:Pw} {f:Nat→ByteArray} (hn:p.nm=none) (hc:p.cl=none) (hf:∀k x,p.f k x=f k)
include hf
theorem qee(sc:Scs)(x:ByteArray):retp p sc x=reto f sc x:=by
 unfold retp reto;cases sc.at x <;> simp[hf]
theorem qec(sc:Scs)(l:List ByteArray):l.map (retp p sc)=l.map (reto f sc):=quC fun x _=>qee hf sc x
include hn
mutual
theorem Ex.wr_w(sc:Scs)(tg:Bool):∀x:Ex,x.wr p sc tg=x.w f sc
 | .mk k o n m e t a=>by
  rw[Ex.wr,Ex.w,Ex.wrl_w sc false a];unfold Pw.nmE;rw[hn];simp only[Ex.kind,Ex.op,Ex.n,Ex.man,Ex.exp,Ex.text,Ex.args,qee hf];split <;> rfl
theorem Ex.wrl_w(sc:Scs)(tg:Bool):∀l:List Ex,Ex.wrl p sc tg l=Ex.wl f sc l
 | []=>rfl
 | x::l=>by rw[Ex.wrl,Ex.wl,Ex.wr_w sc tg x,Ex.wrl_w sc tg l]
end
theorem El.wr_w(sc:Scs)(e:El):e.wr p sc=e.w f sc:=by
 unfold El.wr El.w;rw[Ex.wrl_w hn hf,Ex.wl_map]
theorem Fo.wr_w(sc:Scs)(x:Fo):x.wr p sc=x.w f sc:=by
 unfold Fo.wr Fo.w;rw[qee hf]
end
theorem Sm.valid_block{nm:ByteArray→Bool}{l:List ByteArray}{k:Int}{t:ByteArray}{g e:List Ex}{h:List El}{d:List De}{b:List Sm}(v:(Pa.st (.mk l k t g e h d b)).valid nm=true):
  (k=7→g=[]∧e=[]∧h=[])∧(k=8→g=[]∧e=[]∧h=[]∧d=[])∧(k≠7→k≠8→d=[]):=by
 have h1:=(Pa.valid_iff.1 v).1;simp only[Pa.vOwn,Sm.vOwn,qtJ] at h1;have h1:=h1.2;refine ⟨?_,?_,?_⟩
 ·rintro rfl;simp at h1;simp[h1]
 ·rintro rfl;simp at h1;simp[h1]
 ·intro h7 h8
  repeat' split at h1
  all_goals first
   | (simp at h1;done)
   | (simp at h1;simp[h1];done)
   | omega
theorem De.valid_proc{nm:ByteArray→Bool}{k:Int}{o:Bool}{t:Int}{n:List ByteArray}{e:List Ex}{f:List Fo}{b:List Sm}(v:(Pa.de (.mk k o t n e f b)).valid nm=true):
  (k=4→e=[])∧(k≠4→f=[]∧b=[]):=by
 have h1:=(Pa.valid_iff.1 v).1;simp only[Pa.vOwn,De.vOwn,qtJ] at h1;have h1:=h1.2;refine ⟨?_,?_⟩
 ·rintro rfl;simp at h1;simp[h1]
 ·intro h4
  repeat' split at h1
  all_goals first
   | (simp at h1;done)
   | (simp at h1;simp[h1];done)
   | omega
section
variable {p:Pw} {f:Nat→ByteArray} (hn:p.nm=none) (hc:p.cl=none) (hf:∀k x,p.f k x=f k) {nm:ByteArray→Bool}
include hn hc hf
mutual
theorem Sm.wr_w:∀(s:Sm) (sc:Scs) (n:Nat),(Pa.st s).valid nm=true→s.wr p sc n=s.w f sc n
 | .mk l k t g e h d b,sc,n,v=>by
  obtain ⟨v7,v8,v9⟩:=Sm.valid_block v;have vd:=Sm.valid_decls v;have vb:=Sm.valid_body v;simp only[Sm.decls,Sm.body] at vd vb;rw[Sm.wr,Sm.w];by_cases h7:k=7
  ·obtain ⟨rfl,rfl,rfl⟩:=v7 h7;rw[if_pos h7,if_pos h7,qec hf,De.wrl_w d _ _ _ vd,Sm.wrl_w b _ _ vb];rfl
  ·rw[if_neg h7,if_neg h7];by_cases h8:k=8
   ·obtain ⟨rfl,rfl,rfl,rfl⟩:=v8 h8;rw[if_pos h8,if_pos h8,qec hf,Sm.wrl_w b _ _ vb];rfl
   ·obtain rfl:=v9 h7 h8;have hcl:p.clE sc k t=if k=6 then reto f sc t else t:=by unfold Pw.clE;rw[hc];simp only[qee hf]
    rw[if_neg h8,if_neg h8,qec hf,Ex.wrl_w hn hf,Ex.wrl_w hn hf,Sm.wr1_w b _ _ vb,hcl,quC fun x _=>El.wr_w hn hf sc x]
theorem De.wr_w:∀(s:De) (own sc:Scs) (n:Nat),(Pa.de s).valid nm=true→s.wr p own sc n=s.w f own sc n
 | .mk k o t ns e fo b,own,sc,n,v=>by
  obtain ⟨v4,v5⟩:=De.valid_proc v;have vb:=De.valid_body v;simp only[De.body] at vb;rw[De.wr,De.w];by_cases h4:k=4
  ·obtain rfl:=v4 h4;rw[if_pos h4,if_pos h4,qec hf,Sm.wr1_w b _ _ vb,quC fun x _=>Fo.wr_w hn hf _ x];rfl
  ·obtain ⟨rfl,rfl⟩:=v5 h4;rw[if_neg h4,if_neg h4,qec hf,Ex.wrl_w hn hf]
theorem De.wrl_w:∀(l:List De) (own sc:Scs) (n:Nat),(∀x,x∈l→(Pa.de x).valid nm=true)→De.wrl p own sc n l=De.wl f own sc n l
 | [],_,_,_,_=>rfl
 | x::l,own,sc,n,v=>by rw[De.wrl,De.wl,De.wr_w x own sc n (v x (by simp)),De.wrl_w l own sc _ fun y hy=>v y (by simp[hy])]
theorem Sm.wrl_w:∀(l:List Sm) (sc:Scs) (n:Nat),(∀x,x∈l→(Pa.st x).valid nm=true)→Sm.wrl p sc n l=Sm.wl f sc n l
 | [],_,_,_=>rfl
 | x::l,sc,n,v=>by rw[Sm.wrl,Sm.wl,Sm.wr_w x sc n (v x (by simp)),Sm.wrl_w l sc _ fun y hy=>v y (by simp[hy])]
theorem Sm.wr1_w:∀(l:List Sm) (sc:Scs) (n:Nat),(∀x,x∈l→(Pa.st x).valid nm=true)→Sm.wr1 p sc n l=Sm.w1 f sc n l
 | [],_,_,_=>rfl
 | x::l,sc,n,v=>by rw[Sm.wr1,Sm.w1,Sm.wr_w x _ _ (v x (by simp)),Sm.wr1_w l sc _ fun y hy=>v y (by simp[hy])]
end
theorem Sm.wholeR_w(s:Sm)(v:(Pa.st s).valid nm=true):s.wholeR p=s.whole f:=Sm.wr_w hn hc hf s _ _ v
end
def Pbd(N:Nat)(sc:Scs):Prop:=∀x k,sc.at x=some k→k<N
theorem qgR(base:Nat):∀(l:List ByteArray) (s:Sco) (n:Nat),(∀e,e∈s→e.2<base+s.length)→n=base+s.length→∀e,e∈binds l s n→e.2<base+(binds l s n).length
 | [],s,n,h,_=>h
 | x::l,s,n,h,hn=>by
  simp only[binds];split
  ·exact qgR base l s n h hn
  ·refine qgR base l _ _ (fun e he=>?_) (by simp;omega);rcases quh.1 he with he|he
   ·have:=h e he;simp;omega
   ·simp at he;subst he;simp;omega
theorem Pbd.bind{N:Nat}{sc:Scs}(h:Pbd N sc)(l:List ByteArray)(n:Nat)(hn:n+(qae l n).length≤N):Pbd N (qae l n::sc):=by
 intro x k hk;unfold Scs.at at hk
 cases ha:Sco.at (qae l n) x with
 | none=>rw[ha] at hk;exact h x k hk
 | some j=>
  rw[ha] at hk;cases hk;unfold Sco.at at ha;rw[qtK] at ha;obtain ⟨e,he,rfl⟩:=ha;have:=qgR n l [] n (by simp) (by simp) e (List.mem_of_find?_eq_some he);unfold qae at hn;omega
structure RwOk(r:Rp)(g:Nat→ByteArray)(N:Nat):Prop where
 fresh:∀k,k<N→r.fresh[k]?=some (g k)
 fro:r.fro=[]
theorem qbM(l:List ByteArray)(n:Nat):(qae l n).length=(qae l 0).length:=qbc l n 0
section
variable {r:Rp} {g:Nat→ByteArray} {N:Nat} (ok:RwOk r g N) {nm:ByteArray→Bool}
include ok
theorem qjl(sc:Scs)(x:ByteArray):rmt r sc x=none:=by
 unfold rmt mt;rw[ok.fro];cases sc.at x <;> simp[mtL]
theorem qeb{sc:Scs}(h:Pbd N sc)(x:ByteArray):rren r sc x=reto g sc x:=by
 unfold rren reto
 cases ha:sc.at x with
 | none=>rfl
 | some k=>simp[ok.fresh k (h x k ha)]
theorem qfS{sc:Scs}(h:Pbd N sc)(x:ByteArray):qcd r sc x=reto g sc x:=by
 unfold qcd;rw[qjl ok];exact qeb ok h x
theorem qd8{sc:Scs}(h:Pbd N sc)(l:List ByteArray):l.map (rren r sc)=l.map (reto g sc):=quC fun x _=>qeb ok h x
mutual
theorem Ex.rw_w{sc:Scs}(h:Pbd N sc):∀x:Ex,(Pa.ex x).valid nm=true→x.rw r sc=x.w g sc
 | .mk k o n m e t a,v=>by
  have va:=Ex.valid_args v;simp only[Ex.args] at va;have h1:=(Pa.valid_iff.1 v).1;rw[Ex.rw,Ex.w,Ex.rwl_w h a va];by_cases h6:k=6
  ·subst h6;simp[Pa.vOwn,Ex.vOwn] at h1;obtain ⟨⟨⟨⟨_,rfl⟩,rfl⟩,rfl⟩,rfl,rfl⟩:=h1;rw[if_pos rfl,qjl ok,qeb ok h];rfl
  ·rw[if_neg h6];by_cases h78:k=7∨k=8
   ·have:Ex.named k=true:=by unfold Ex.named;rcases h78 with rfl|rfl <;> rfl
    rw[if_pos h78,this,qfS ok h];rfl
   ·have:Ex.named k=false:=by unfold Ex.named;simp;omega
    rw[if_neg h78,this];rfl
theorem Ex.rwl_w{sc:Scs}(h:Pbd N sc):∀l:List Ex,(∀x,x∈l→(Pa.ex x).valid nm=true)→Ex.rwl r sc l=Ex.wl g sc l
 | [],_=>rfl
 | x::l,v=>by rw[Ex.rwl,Ex.wl,Ex.rw_w h x (v x (by simp)),Ex.rwl_w h l fun y hy=>v y (by simp[hy])]
end
theorem El.rw_w{sc:Scs}(h:Pbd N sc)(e:El)(v:(Pa.el e).valid nm=true):e.rw r sc=e.w g sc:=by
 unfold El.rw El.w;rw[Ex.rwl_w ok h e.exps fun x hx=>(Pa.valid_iff.1 v).2 _ (by simp only[Pa.kids,qt3];exact ⟨x,hx,rfl⟩),Ex.wl_map]
theorem Fo.rw_w{sc:Scs}(h:Pbd N sc)(x:Fo):x.rw r sc=x.w g sc:=by
 unfold Fo.rw Fo.w;rw[qeb ok h]
mutual
theorem Sm.rw_w:∀(s:Sm) (sc:Scs) (n:Nat),Pbd N sc→n+s.nb≤N→(Pa.st s).valid nm=true→s.rw r sc n=s.w g sc n
 | .mk l k t gs e hh d b,sc,n,h,hN,v=>by
  obtain ⟨v7,v8,v9⟩:=Sm.valid_block v;have vd:=Sm.valid_decls v;have vb:=Sm.valid_body v;have vg:=Sm.valid_targets v;have ve:=Sm.valid_exps v;have vh:=Sm.valid_elems v;simp only[Sm.decls,Sm.body,Sm.targets,Sm.exps,Sm.elems] at vd vb vg ve vh;rw[Sm.nb] at hN;rw[Sm.rw,Sm.w];by_cases h7:k=7
  ·rw[if_pos h7] at hN;obtain ⟨rfl,rfl,rfl⟩:=v7 h7;have hb:=qbM (qai d b) n;have h':=h.bind (qai d b) n (by omega);rw[if_pos h7,if_pos h7,qd8 ok h,De.rwl_w d _ _ _ h' h (by omega) vd,Sm.rwl_w b _ _ h' (by omega) vb]
  ·rw[if_neg h7] at hN;rw[if_neg h7,if_neg h7];by_cases h8:k=8
   ·rw[if_pos h8] at hN;obtain ⟨rfl,rfl,rfl,rfl⟩:=v8 h8;have hb:=qbM (qak b) n;rw[if_pos h8,if_pos h8,qd8 ok h,Sm.rwl_w b _ _ (h.bind (qak b) n (by omega)) (by omega) vb]
   ·rw[if_neg h8] at hN;obtain rfl:=v9 h7 h8;rw[if_neg h8,if_neg h8,qd8 ok h,Ex.rwl_w ok h gs vg,Ex.rwl_w ok h e ve,Sm.rw1_w b _ _ h (by omega) vb,quC fun x hx=>El.rw_w ok h x (vh x hx),qfS ok h]
theorem De.rw_w:∀(s:De) (own sc:Scs) (n:Nat),Pbd N own→Pbd N sc→n+s.nb≤N→(Pa.de s).valid nm=true→s.rw r own sc n=s.w g own sc n
 | .mk k o t ns e fo b,own,sc,n,h,h2,hN,v=>by
  obtain ⟨v4,v5⟩:=De.valid_proc v;have vb:=De.valid_body v;have ve:=De.valid_exps v;simp only[De.body,De.exps] at vb ve;rw[De.nb] at hN;rw[De.rw,De.w];by_cases h4:k=4
  ·rw[if_pos h4] at hN;obtain rfl:=v4 h4;have hb:=qbM (fo.map Fo.name) n;have h':=h.bind (fo.map Fo.name) n (by omega);rw[if_pos h4,if_pos h4,qd8 ok h,Sm.rw1_w b _ _ h' (by omega) vb,quC fun x _=>Fo.rw_w ok h' x];rfl
  ·obtain ⟨rfl,rfl⟩:=v5 h4;have h':Pbd N (if k=2 then sc else own):=by split <;> assumption
   rw[if_neg h4,if_neg h4,qd8 ok h,Ex.rwl_w ok h' e ve]
theorem De.rwl_w:∀(l:List De) (own sc:Scs) (n:Nat),Pbd N own→Pbd N sc→n+De.nbl l≤N→(∀x,x∈l→(Pa.de x).valid nm=true)→De.rwl r own sc n l=De.wl g own sc n l
 | [],_,_,_,_,_,_,_=>rfl
 | x::l,own,sc,n,h,h2,hN,v=>by
  rw[De.nbl] at hN;rw[De.rwl,De.wl,De.rw_w x own sc n h h2 (by omega) (v x (by simp)),De.rwl_w l own sc _ h h2 (by omega) fun y hy=>v y (by simp[hy])]
theorem Sm.rwl_w:∀(l:List Sm) (sc:Scs) (n:Nat),Pbd N sc→n+Sm.nbl l≤N→(∀x,x∈l→(Pa.st x).valid nm=true)→Sm.rwl r sc n l=Sm.wl g sc n l
 | [],_,_,_,_,_=>rfl
 | x::l,sc,n,h,hN,v=>by
  rw[Sm.nbl] at hN;rw[Sm.rwl,Sm.wl,Sm.rw_w x sc n h (by omega) (v x (by simp)),Sm.rwl_w l sc _ h (by omega) fun y hy=>v y (by simp[hy])]
theorem Sm.rw1_w:∀(l:List Sm) (sc:Scs) (n:Nat),Pbd N sc→n+Sm.nb1 l≤N→(∀x,x∈l→(Pa.st x).valid nm=true)→Sm.rw1 r sc n l=Sm.w1 g sc n l
 | [],_,_,_,_,_=>rfl
 | x::l,sc,n,h,hN,v=>by
  rw[Sm.nb1] at hN;have hb:=qbM x.labels n;rw[Sm.rw1,Sm.w1,Sm.rw_w x _ _ (h.bind x.labels n (by omega)) (by omega) (v x (by simp)),Sm.rw1_w l sc _ h (by omega) fun y hy=>v y (by simp[hy])]
end
theorem Sm.wholeQ_w(s:Sm)(hN:Sm.nb1 [s]≤N)(v:(Pa.st s).valid nm=true):s.wholeQ r=s.whole g:=by
 simp only[Sm.nb1,qvt] at hN;have hb:Pbd N [qae s.labels 0]:=Pbd.bind (sc:=[]) (fun x k h=>by cases h) s.labels 0 (by omega);exact Sm.rw_w ok s _ _ hb (by omega) v
end
theorem qnd{l:List ByteArray}(h:okS l){f:ByteArray→ByteArray}(hf:∀x,x∈l→(f x).size≤B50):okS (l.map f):=by
 refine ⟨by rw[qtN];exact h.1,fun s hs=>?_⟩;obtain ⟨x,hx,rfl⟩:=qt3.1 hs;exact hf x hx
theorem Sm.wl_len(f:Nat→ByteArray)(sc:Scs):∀(m:List Sm) (n:Nat),(Sm.wl f sc n m).length=m.length
 | [],_=>by rw[Sm.wl]
 | x::m,n=>by simp only[Sm.wl,que,Sm.wl_len f sc m]
theorem Sm.w1_len(f:Nat→ByteArray)(sc:Scs):∀(m:List Sm) (n:Nat),(Sm.w1 f sc n m).length=m.length
 | [],_=>by rw[Sm.w1]
 | x::m,n=>by simp only[Sm.w1,que,Sm.w1_len f sc m]
theorem De.wl_len(f:Nat→ByteArray)(own sc:Scs):∀(m:List De) (n:Nat),(De.wl f own sc n m).length=m.length
 | [],_=>by rw[De.wl]
 | x::m,n=>by simp only[De.wl,que,De.wl_len f own sc m]
section
variable {f:Nat→ByteArray} {N:Nat} (hf:∀k,k<N→(f k).size≤B50)
include hf
theorem qdt{sc:Scs}(h:Pbd N sc){x:ByteArray}(hx:x.size≤B50):(reto f sc x).size≤B50:=by
 unfold reto
 cases ha:sc.at x with
 | none=>exact hx
 | some k=>exact hf k (h x k ha)
mutual
theorem Ex.w_ok{sc:Scs}(h:Pbd N sc):∀x:Ex,x.ok→(x.w f sc).ok
 | .mk k o n m e t a,v=>by
  obtain ⟨h1,h2,h3⟩:=v;rw[Ex.w];refine ⟨?_,by rw[Ex.wl_map,qtN];exact h2,Ex.wl_ok h a h3⟩;split
  ·exact qdt hf h h1
  ·exact h1
theorem Ex.wl_ok{sc:Scs}(h:Pbd N sc):∀l:List Ex,Ex.okL l→Ex.okL (Ex.wl f sc l)
 | [],_=>trivial
 | x::l,⟨h1,h2⟩=>⟨Ex.w_ok h x h1,Ex.wl_ok h l h2⟩
end
theorem El.w_ok{sc:Scs}(h:Pbd N sc)(e:El)(v:e.ok):(e.w f sc).ok:=by
 have:=Ex.wl_ok hf h e.exps v.2;rw[Ex.wl_map] at this;exact ⟨by unfold El.w;rw[qtN];exact v.1,this⟩
mutual
theorem Sm.w_ok:∀(s:Sm) (sc:Scs) (n:Nat),Pbd N sc→n+s.nb≤N→s.ok→(s.w f sc n).ok
 | .mk l k t gs e hh d b,sc,n,h,hN,v=>by
  have V:=(Sm.ok_iff _).1 v;have hl:=qnd V.labels fun x hx=>qdt hf h (V.labels.2 x hx)
  rw[Sm.nb] at hN;rw[Sm.w];by_cases h7:k=7
  ·rw[if_pos h7] at hN;have hb:=qbM (qai d b) n;have h':=h.bind (qai d b) n (by omega);rw[if_pos h7];refine (Sm.ok_iff _).2 ⟨hl,V.text,⟨quj _,trivial⟩,⟨quj _,trivial⟩,⟨quj _,fun x hx=>by cases hx⟩,⟨?_,De.wl_ok d _ _ _ h' h (by omega) V.decls.2⟩,?_,Sm.wl_ok b _ _ h' (by omega) V.body.2⟩
   ·have:=V.decls.1;simp only[Sm.decls] at this ⊢;rw[De.wl_len];exact this
   ·have:=V.body.1;simp only[Sm.body] at this ⊢;rw[Sm.wl_len];exact this
  ·rw[if_neg h7] at hN;rw[if_neg h7];by_cases h8:k=8
   ·rw[if_pos h8] at hN;have hb:=qbM (qak b) n;rw[if_pos h8];refine (Sm.ok_iff _).2 ⟨hl,V.text,⟨quj _,trivial⟩,⟨quj _,trivial⟩,⟨quj _,fun x hx=>by cases hx⟩,⟨quj _,trivial⟩,?_,Sm.wl_ok b _ _ (h.bind _ _ (by omega)) (by omega) V.body.2⟩;have:=V.body.1;simp only[Sm.body] at this ⊢;rw[Sm.wl_len];exact this
   ·rw[if_neg h8] at hN;rw[if_neg h8];refine (Sm.ok_iff _).2 ⟨hl,?_,⟨?_,Ex.wl_ok hf h gs V.targets.2⟩,⟨?_,Ex.wl_ok hf h e V.exps.2⟩,⟨?_,?_⟩,⟨quj _,trivial⟩,?_,Sm.w1_ok b _ _ h (by omega) V.body.2⟩
    ·have:=V.text;simp only[Sm.text] at this ⊢;split
     ·exact qdt hf h this
     ·exact this
    ·have:=V.targets.1;simp only[Sm.targets] at this ⊢;rw[Ex.wl_map,qtN];exact this
    ·have:=V.exps.1;simp only[Sm.exps] at this ⊢;rw[Ex.wl_map,qtN];exact this
    ·have:=V.elems.1;simp only[Sm.elems] at this ⊢;rw[qtN];exact this
    ·intro x hx;simp only[Sm.elems] at hx;obtain ⟨y,hy,rfl⟩:=qt3.1 hx;exact El.w_ok hf h y (V.elems.2 y hy)
    ·have:=V.body.1;simp only[Sm.body] at this ⊢;rw[Sm.w1_len];exact this
theorem De.w_ok:∀(s:De) (own sc:Scs) (n:Nat),Pbd N own→Pbd N sc→n+s.nb≤N→s.ok→(s.w f own sc n).ok
 | .mk k o t ns e fo b,own,sc,n,h,h2,hN,v=>by
  have V:=(De.ok_iff _).1 v;have hl:=qnd V.names fun x hx=>qdt hf h (V.names.2 x hx)
  rw[De.nb] at hN;rw[De.w];by_cases h4:k=4
  ·rw[if_pos h4] at hN;have hb:=qbM (fo.map Fo.name) n;have h':=h.bind (fo.map Fo.name) n (by omega);rw[if_pos h4];refine (De.ok_iff _).2 ⟨hl,⟨quj _,trivial⟩,⟨?_,?_⟩,?_,Sm.w1_ok b _ _ h' (by omega) V.body.2⟩
   ·have:=V.formals.1;simp only[De.formals] at this ⊢;rw[qtN];exact this
   ·intro x hx;simp only[De.formals] at hx;obtain ⟨y,hy,rfl⟩:=qt3.1 hx;exact qdt hf h' (V.formals.2 y hy)
   ·have:=V.body.1;simp only[De.body] at this ⊢;rw[Sm.w1_len];exact this
  ·have h':Pbd N (if k=2 then sc else own):=by split <;> assumption
   rw[if_neg h4];refine (De.ok_iff _).2 ⟨hl,⟨?_,Ex.wl_ok hf h' e V.exps.2⟩,⟨quj _,fun x hx=>by cases hx⟩,quj _,trivial⟩;have:=V.exps.1;simp only[De.exps] at this ⊢;rw[Ex.wl_map,qtN];exact this
theorem De.wl_ok:∀(l:List De) (own sc:Scs) (n:Nat),Pbd N own→Pbd N sc→n+De.nbl l≤N→De.okL l→De.okL (De.wl f own sc n l)
 | [],_,_,_,_,_,_,_=>by rw[De.wl];exact trivial
 | x::l,own,sc,n,h,h2,hN,v=>by
  rw[De.nbl] at hN;rw[De.okL] at v;rw[De.wl,De.okL];exact ⟨De.w_ok x own sc n h h2 (by omega) v.1,De.wl_ok l own sc _ h h2 (by omega) v.2⟩
theorem Sm.wl_ok:∀(l:List Sm) (sc:Scs) (n:Nat),Pbd N sc→n+Sm.nbl l≤N→Sm.okL l→Sm.okL (Sm.wl f sc n l)
 | [],_,_,_,_,_=>by rw[Sm.wl];exact trivial
 | x::l,sc,n,h,hN,v=>by
  rw[Sm.nbl] at hN;rw[Sm.okL] at v;rw[Sm.wl,Sm.okL];exact ⟨Sm.w_ok x sc n h (by omega) v.1,Sm.wl_ok l sc _ h (by omega) v.2⟩
theorem Sm.w1_ok:∀(l:List Sm) (sc:Scs) (n:Nat),Pbd N sc→n+Sm.nb1 l≤N→Sm.okL l→Sm.okL (Sm.w1 f sc n l)
 | [],_,_,_,_,_=>by rw[Sm.w1];exact trivial
 | x::l,sc,n,h,hN,v=>by
  rw[Sm.nb1] at hN;rw[Sm.okL] at v;have hb:=qbM x.labels n;rw[Sm.w1,Sm.okL];exact ⟨Sm.w_ok x _ _ (h.bind x.labels n (by omega)) (by omega) v.1,Sm.w1_ok l sc _ h (by omega) v.2⟩
end
theorem Sm.whole_ok(s:Sm)(hN:Sm.nb1 [s]≤N)(v:s.ok):(s.whole f).ok:=by
 simp only[Sm.nb1,qvt] at hN;have hb:Pbd N [qae s.labels 0]:=Pbd.bind (sc:=[]) (fun x k h=>by cases h) s.labels 0 (by omega);exact Sm.w_ok hf s _ _ hb (by omega) v
end
theorem qmZ{l:List Ex}{deep n:Int}(h:n≤0):Ex.leftL l deep n≤0:=by
 unfold Ex.leftL;split
 ·omega
 ·rw[Ex.leftG_neg l deep n h];exact h
mutual
theorem Ex.left_size:∀(x:Ex) (deep n:Int),0<x.left deep n→x.left deep n=n - (Pa.ex x).size
 | .mk k o n' m e t a,deep,n,h=>by
  have hsz:(Pa.ex (.mk k o n' m e t a)).size=1+qaD (a.map Pa.ex):=by rw[Pa.size_eq];rfl
  rw[Ex.left] at h ⊢;split at h
  ·omega
  ·rename_i hd;rw[if_neg hd,Ex.leftG_size a _ _ h];omega
theorem Ex.leftG_size:∀(l:List Ex) (deep n:Int),0<Ex.leftG l deep n→Ex.leftG l deep n=n - qaD (l.map Pa.ex)
 | [],_,n,h=>by simp[Ex.leftG]
 | x::l,deep,n,h=>by
  rw[Ex.leftG] at h ⊢;split at h
  ·rename_i h0;rw[if_pos h0];by_cases hx:0<x.left deep n
   ·rw[Ex.leftG_size l _ _ h,Ex.left_size x deep n hx,qtW,sizes_cons];omega
   ·rw[Ex.leftG_neg l _ _ (by omega)] at h;omega
  ·omega
end
theorem Ex.leftL_size(l:List Ex)(deep n:Int)(h:0<Ex.leftL l deep n):Ex.leftL l deep n=n - qaD (l.map Pa.ex):=by
 unfold Ex.leftL at h ⊢;split at h
 ·omega
 ·rename_i hd;rw[if_neg hd,Ex.leftG_size l _ _ h]
theorem El.leftG_size:∀(l:List El) (deep n:Int),0<El.leftG l deep n→El.leftG l deep n=n - qaD (l.map Pa.el)
 | [],_,n,h=>by simp[El.leftG]
 | x::l,deep,n,h=>by
  have hsz:(Pa.el x).size=1+qaD (x.exps.map Pa.ex):=by rw[Pa.size_eq];rfl
  rw[El.leftG] at h ⊢;split at h
  ·rename_i h0;rw[if_pos h0];by_cases hx:0<Ex.leftL x.exps (deep+1) (n - 1)
   ·rw[El.leftG_size l _ _ h,Ex.leftL_size _ _ _ hx,qtW,sizes_cons];omega
   ·have:El.leftG l deep (Ex.leftL x.exps (deep+1) (n - 1))=Ex.leftL x.exps (deep+1) (n - 1):=by cases l <;> simp[El.leftG,hx]
    rw[this] at h;omega
  ·omega
theorem El.leftG_neg'{l:List El}{deep n:Int}(h:¬ 0<n):El.leftG l deep n=n:=by cases l <;> simp[El.leftG,h]
theorem De.leftG_neg'{l:List De}{deep n:Int}(h:¬ 0<n):De.leftG l deep n=n:=by cases l <;> simp[De.leftG,h]
theorem Sm.leftG_neg'{l:List Sm}{deep n:Int}(h:¬ 0<n):Sm.leftG l deep n=n:=by cases l <;> simp[Sm.leftG,h]
theorem Sm.size_parts'(s:Sm):(Pa.st s).size=1+s.labels.length+qaD (s.targets.map Pa.ex)+qaD (s.exps.map Pa.ex)+qaD (s.elems.map Pa.el)+qaD (s.decls.map Pa.de)+qaD (s.body.map Pa.st):=by
 rw[Pa.size_eq];simp only[Pa.own,Pa.kids,qa5];omega
theorem De.size_parts'(d:De):(Pa.de d).size=1+d.names.length+d.formals.length+qaD (d.exps.map Pa.ex)+qaD (d.body.map Pa.st):=by
 rw[Pa.size_eq];simp only[Pa.own,Pa.kids,qa5];omega
mutual
theorem Sm.left_size:∀(s:Sm) (deep n:Int),0<s.left deep n→s.left deep n=n - (Pa.st s).size
 | .mk l k t g e f d b,deep,n,h=>by
  have hsz:=Sm.size_parts' (.mk l k t g e f d b);simp only[Sm.labels,Sm.targets,Sm.exps,Sm.elems,Sm.decls,Sm.body] at hsz;rw[Sm.left] at h ⊢;split at h
  ·omega
  ·rename_i hd;rw[if_neg hd];have h5:=Sm.leftG_size b _ _ h
   have h4:0<De.leftG d deep (El.leftG f deep (Ex.leftL g (deep+1) (Ex.leftL e (deep+1) (n - 1 - l.length)))):=by
    by_cases hh:0<De.leftG d deep (El.leftG f deep (Ex.leftL g (deep+1) (Ex.leftL e (deep+1) (n - 1 - l.length))))
    ·exact hh
    ·rw[Sm.leftG_neg' hh] at h;exact h
   have h4':=De.leftG_size d _ _ h4
   have h3:0<El.leftG f deep (Ex.leftL g (deep+1) (Ex.leftL e (deep+1) (n - 1 - l.length))):=by
    by_cases hh:0<El.leftG f deep (Ex.leftL g (deep+1) (Ex.leftL e (deep+1) (n - 1 - l.length)))
    ·exact hh
    ·rw[De.leftG_neg' hh] at h4;exact h4
   have h3':=El.leftG_size f _ _ h3
   have h2:0<Ex.leftL g (deep+1) (Ex.leftL e (deep+1) (n - 1 - l.length)):=by
    by_cases hh:0<Ex.leftL g (deep+1) (Ex.leftL e (deep+1) (n - 1 - l.length))
    ·exact hh
    ·rw[El.leftG_neg' hh] at h3;exact h3
   have h2':=Ex.leftL_size g _ _ h2
   have h1:0<Ex.leftL e (deep+1) (n - 1 - l.length):=by
    by_cases hh:0<Ex.leftL e (deep+1) (n - 1 - l.length)
    ·exact hh
    ·have:=qmZ (l:=g) (deep:=deep+1) (n:=Ex.leftL e (deep+1) (n - 1 - l.length)) (by omega);omega
   have h1':=Ex.leftL_size e _ _ h1;omega
theorem De.left_size:∀(s:De) (deep n:Int),0<s.left deep n→s.left deep n=n - (Pa.de s).size
 | .mk k o t nm e f b,deep,n,h=>by
  have hsz:=De.size_parts' (.mk k o t nm e f b);simp only[De.names,De.formals,De.exps,De.body] at hsz;rw[De.left] at h ⊢;have h5:=Sm.leftG_size b _ _ h
  have h1:0<Ex.leftL e (deep+1) (n - 1 - nm.length - f.length):=by
   by_cases hh:0<Ex.leftL e (deep+1) (n - 1 - nm.length - f.length)
   ·exact hh
   ·rw[Sm.leftG_neg' hh] at h;exact h
  have h1':=Ex.leftL_size e _ _ h1;omega
theorem De.leftG_size:∀(l:List De) (deep n:Int),0<De.leftG l deep n→De.leftG l deep n=n - qaD (l.map Pa.de)
 | [],_,n,h=>by simp[De.leftG]
 | x::l,deep,n,h=>by
  rw[De.leftG] at h ⊢;split at h
  ·rename_i h0;rw[if_pos h0];by_cases hx:0<x.left deep n
   ·rw[De.leftG_size l _ _ h,De.left_size x deep n hx,qtW,sizes_cons];omega
   ·rw[De.leftG_neg' hx] at h;omega
  ·omega
theorem Sm.leftG_size:∀(l:List Sm) (deep n:Int),0<Sm.leftG l deep n→Sm.leftG l deep n=n - qaD (l.map Pa.st)
 | [],_,n,h=>by simp[Sm.leftG]
 | x::l,deep,n,h=>by
  rw[Sm.leftG] at h ⊢;split at h
  ·rename_i h0;rw[if_pos h0];by_cases hx:0<x.left deep n
   ·rw[Sm.leftG_size l _ _ h,Sm.left_size x deep n hx,qtW,sizes_cons];omega
   ·rw[Sm.leftG_neg' hx] at h;omega
  ·omega
end
theorem qeE:∀(l:List ByteArray) (s:Sco) (n:Nat),(binds l s n).length≤s.length+l.length
 | [],s,n=>by simp[binds]
 | x::l,s,n=>by
  simp only[binds];split
  ·have:=qeE l s n;simp;omega
  ·have:=qeE l (s++[(x,n)]) (n+1);simp at this ⊢;omega
theorem qe8(l:List ByteArray)(n:Nat):(qae l n).length≤l.length:=by have:=qeE l [] n;simpa[qae] using this
theorem qgS(x:Sm)(l:List Sm):(qak (x::l)).length=x.labels.length+(qak l).length:=by simp[qak]
theorem qhB(x:De)(l:List De):((x::l).flatMap De.names).length=x.names.length+(l.flatMap De.names).length:=by simp
mutual
theorem Sm.nb_size:∀s:Sm,s.labels.length+s.nb≤(Pa.st s).size
 | .mk l k t g e f d b=>by
  have hsz:=Sm.size_parts' (.mk l k t g e f d b);have hd:=De.nbl_size d;have hb:=Sm.nbl_size b;have h1:=Sm.nb1_size b;simp only[Sm.labels,Sm.targets,Sm.exps,Sm.elems,Sm.decls,Sm.body] at hsz ⊢;rw[Sm.nb];split
  ·have:=qe8 (qai d b) 0;unfold qai at this ⊢;rw[qtZ] at this;omega
  ·split
   ·have:=qe8 (qak b) 0;omega
   ·omega
theorem De.nb_size:∀s:De,s.names.length+s.nb≤(Pa.de s).size
 | .mk k o t nm e f b=>by
  have hsz:=De.size_parts' (.mk k o t nm e f b);have h1:=Sm.nb1_size b;simp only[De.names,De.formals,De.exps,De.body] at hsz ⊢;rw[De.nb];split
  ·have:=qe8 (f.map Fo.name) 0;rw[qtN] at this;omega
  ·omega
theorem De.nbl_size:∀l:List De,(l.flatMap De.names).length+De.nbl l≤qaD (l.map Pa.de)
 | []=>by simp[De.nbl]
 | x::l=>by
  have h1:=De.nb_size x;have h2:=De.nbl_size l;rw[qhB,De.nbl,qtW,sizes_cons];omega
theorem Sm.nbl_size:∀l:List Sm,(qak l).length+Sm.nbl l≤qaD (l.map Pa.st)
 | []=>by simp[Sm.nbl,qak]
 | x::l=>by
  have h1:=Sm.nb_size x;have h2:=Sm.nbl_size l;rw[qgS,Sm.nbl,qtW,sizes_cons];omega
theorem Sm.nb1_size:∀l:List Sm,Sm.nb1 l≤qaD (l.map Pa.st)
 | []=>by simp[Sm.nb1]
 | x::l=>by
  have h1:=Sm.nb_size x;have h2:=Sm.nb1_size l;have h3:=qe8 x.labels 0;rw[Sm.nb1,qtW,sizes_cons];omega
end
open Go.Proofs.Tryz
def dval(l:List UInt8):Nat:=l.foldl (fun a d=>10 * a+(d.toNat - 48)) 0
theorem qhF(l:List UInt8)(d:UInt8):dval (l++[d])=10 * dval l+(d.toNat - 48):=by
 unfold dval;rw[List.foldl_append];rfl
theorem qlx(k:Nat)(hk:k<10):(UInt8.ofNat (48+k)).toNat - 48=k:=by
 have:(UInt8.ofNat (48+k)).toNat=(48+k) % 256:=UInt8.toNat_ofNat';omega
theorem qgA:∀(m n:Nat),n≤m→dval (dig n)=n
 | 0,n,h=>by
  have:n=0:=by omega
  subst this;rw[qbN (by omega)];rfl
 | m+1,n,h=>by
  by_cases hn:n<10
  ·rw[qbN hn];have:=qhF [] (UInt8.ofNat (48+n));rw[qt4] at this;rw[this,qlx n hn];simp[dval]
  ·rw[qdx hn,qhF,qgA m (n / 10) (by omega),qlx _ (by omega)];omega
theorem qmU{i j:Nat}(h:dig i=dig j):i=j:=by
 have:=congrArg dval h;rwa [qgA i i (qtH _),qgA j j (qtH _)] at this
theorem qi8(c:UInt8)(l:List UInt8):((⟨⟨[c]⟩⟩:ByteArray)++⟨l.toArray⟩).data.toList=c::l:=by
 simp[ByteArray.data_append]
theorem qlZ{c:UInt8}{l m:List UInt8}(h:(⟨⟨[c]⟩⟩:ByteArray)++⟨l.toArray⟩=(⟨⟨[c]⟩⟩:ByteArray)++⟨m.toArray⟩):l=m:=by
 have:=congrArg (fun b:ByteArray=>b.data.toList) h;simp only[qi8] at this;exact (List.cons.inj this).2
theorem qm5{c:UInt8}{l:List UInt8}(h:isL c.toNat=false):qab ((⟨⟨[c]⟩⟩:ByteArray)++⟨l.toArray⟩)=false:=by
 unfold qab;rw[qi8];simp[qry,h]
theorem qsD:Namer qab numF gnum where
 f1 i j h:=qmU (qlZ h)
 g1 i j h:=qmU (qlZ h)
 f2 i:=qm5 (by decide)
 g2 i:=qm5 (by decide)
theorem qlS(k:Nat)(hk:k<1000):(numF k).size≤B50:=by
 have:=qcF k k (qtH _);unfold numF B50;have h1:(⟨⟨[35]⟩⟩:ByteArray).size=1:=rfl;have h2:(⟨(dig k).toArray⟩:ByteArray).size=(dig k).length:=by simp[ByteArray.size]
 rw[ByteArray.size_append];omega
theorem qhK(k:Nat)(hk:k<1000):(gnum k).size≤B50:=by
 have:=qcF k k (qtH _);unfold gnum B50;have h1:(⟨⟨[63]⟩⟩:ByteArray).size=1:=rfl;have h2:(⟨(dig k).toArray⟩:ByteArray).size=(dig k).length:=by simp[ByteArray.size]
 rw[ByteArray.size_append];omega
theorem qtu(n:Nat):RwOk (rn n) gnum n:=⟨fun k hk=>by simp[rn,hk],rfl⟩
theorem qc6{p:Pa}{nm:ByteArray→Bool}(h:p.err nm=0):p.fits∧p.valid nm=true:=by
 unfold Pa.err at h;split at h
 ·rename_i hf;split at h
  ·rename_i hv;exact ⟨hf,hv⟩
  ·omega
 ·omega
theorem qcJ{s:Sm}(h:s.light=true):(Pa.st s).size<150:=by
 unfold Sm.light at h;rw[decide_eq_true_eq] at h;have:=Sm.left_size s 0 150 h;omega
theorem qjp{s:Sm}(h:s.light=true):Sm.nb1 [s]<150:=by
 have h1:=qcJ h;have h2:=Sm.nb1_size [s];simp at h2;omega
theorem qft{s:Sm}(v:(Pa.st s).valid qab=true):s.wholeR (nuP numF)=s.whole numF:=Sm.wholeR_w rfl rfl (fun _ _=>rfl) s v
theorem qhu{s:Sm}(v:(Pa.st s).valid qab=true):s.wholeQ (rn (Sm.nb1 [s]))=s.whole gnum:=Sm.wholeQ_w (qtu _) s (qtH _) v
open Classical in
theorem qsO(a b:Sm)(la:a.light=true)(lb:b.light=true)(oa:a.ok)(ob:b.ok)(ea:(Pa.st a).err qab=0)(eb:(Pa.st b).err qab=0)(S:St):
  Spec prog 25 [a.v,b.v] S (fun v U=>v=.bool (decide (a.whole gnum=b.whole gnum))∧Kp (fun _=>False) S U):=by
 obtain ⟨fa,va⟩:=qc6 ea;obtain ⟨fb,vb⟩:=qc6 eb;have sa:=qcJ la;have sb:=qcJ lb;have na:=qjp la;have nb:=qjp lb;have qa:=fun S=>qo9 a (by omega) (by omega) S
 have qb:=fun S=>qo9 b (by omega) (by omega) S
 rw[qhu va] at qa;rw[qhu vb] at qb;have wa:=Sm.whole_ok (f:=gnum) (N:=1000) (fun k hk=>qhK k hk) a (by omega) oa;have wb:=Sm.whole_ok (f:=gnum) (N:=1000) (fun k hk=>qhK k hk) b (by omega) ob;have ga:=Sm.whole_fits gnum a fa;have gb:=Sm.whole_fits gnum b fb;refine Spec.intro func25 ok25 (by simp[c25]) ?_;obtain ⟨S1,hS1⟩:∃S1:St,S1=S++[.arr [a.v] 8 1,.arr [b.v] 8 1]:=⟨_,rfl⟩;have b0:S1[S.length]?=some (.arr [a.v] 8 1):=by rw[hS1,qtC (by omega)];simp
 have b1:S1[S.length+1]?=some (.arr [b.v] 8 1):=by rw[hS1,qtC (by omega)];simp
 have kS:Kp (fun _=>False) S S1:=by rw[hS1];exact (Kp.refl _ _).push _
 have d0:ldS S1 (.ptr S.length 0 0 1) (some 8)=some a.v:=by simp[ldS,b0]
 have d1:ldS S1 (.ptr (S.length+1) 0 0 1) (some 8)=some b.v:=by simp[ldS,b1]
 simp[c25,boxS];rw[←hS1];simp[d0];refine qbE (qa S1) ⟨_,S1,rfl,Kp.refl _ _⟩ ?_;rintro r U2 ⟨rfl,k2⟩;have c1:=k2.at b1 id;have d2:ldS U2 (.ptr (S.length+1) 0 0 1) (some 8)=some b.v:=by simp[ldS,c1]
 simp[d2];refine qbE (qb U2) ⟨_,U2,rfl,Kp.refl _ _⟩ ?_;rintro r U3 ⟨rfl,k3⟩;simp;refine qa6 (qtc (a.whole gnum) (b.whole gnum) wa wb ga gb U3) ?_;simp;simp[dend,qbe,qbj,d1,d2];exact qaj rfl ⟨rfl,kS.trans (k2.trans k3)⟩
open Classical in
theorem qtv(a b:Sm)(oa:a.ok)(ob:b.ok):Fn prog 4 [a.v,b.v] [] (.bool true):=by
 refine Spec.intro func4 ok4 (by simp[c4]) ?_;obtain ⟨S1,hS1⟩:∃S1:St,S1=[.arr [a.v] 8 1,.arr [b.v] 8 1]:=⟨_,rfl⟩;have b0:S1[0]?=some (.arr [a.v] 8 1):=by rw[hS1];rfl
 have b1:S1[1]?=some (.arr [b.v] 8 1):=by rw[hS1];rfl
 have d0:ldS S1 (.ptr 0 0 0 1) (some 8)=some a.v:=by simp[ldS,b0]
 have d1:ldS S1 (.ptr 1 0 0 1) (some 8)=some b.v:=by simp[ldS,b1]
 have sane:∀(U:St) (e:Env) (d:Nat) (Φ:V→St→Prop),Φ (.bool true) U→qiw prog 18 [] U Φ:=fun U e d Φ h=>qag (qgf U) h
 simp[c4,boxS];rw[←hS1];simp[d0];refine qag (qoZ a oa S1) ?_
 cases la:a.light with
 | false=>
  simp;refine qag (qgf S1) ?_;simp;exact qaa rfl rfl rfl
 | true=>
 simp[d1];refine qag (qoZ b ob S1) ?_
 cases lb:b.light with
 | false=>
  simp;refine qag (qgf S1) ?_;simp;exact qaa rfl rfl rfl
 | true=>
 simp[d0,d1];have sa:=qcJ la;have sb:=qcJ lb;have na:=qjp la;have nb:=qjp lb
 have hn:(Pa.st a).err qab=0→(a.wholeR (nuP numF)).ok:=fun h=>by
  rw[qft (qc6 h).2];exact Sm.whole_ok (f:=numF) (N:=1000) (fun k hk=>qlS k hk) a (by omega) oa
 refine qan (qsa a b oa ob (by omega) (by omega) (by omega) (by omega) hn S1) ?_;rintro r U ⟨rfl,kU⟩;have c0:=kU.at b0 id;have c1:=kU.at b1 id;have e0:ldS U (.ptr 0 0 0 1) (some 8)=some a.v:=by simp[ldS,c0]
 have e1:ldS U (.ptr 1 0 0 1) (some 8)=some b.v:=by simp[ldS,c1]
 simp[evX,e0];refine qag (qpb a oa U) ?_;by_cases ea:(Pa.st a).err qab=0
 case neg=>
  simp[ea];refine qag (qgf U) ?_;simp;exact qaa rfl rfl rfl
 simp[ea,e1];refine qag (qpb b ob U) ?_;by_cases eb:(Pa.st b).err qab=0
 case neg=>
  simp[eb];refine qag (qgf U) ?_;simp;exact qaa rfl rfl rfl
 simp[eb];refine qag (qgf U) ?_;simp[e0,e1];refine qan (qsO a b la lb oa ob ea eb U) ?_;rintro r U2 ⟨rfl,k2⟩
 have hw:(a.wholeR (nuP numF)=b.wholeR (nuP numF))↔(a.whole gnum=b.whole gnum):=by
  rw[qft (qc6 ea).2,qft (qc6 eb).2];exact Sm.whole_iff qsD a b (qc6 ea).2 (qc6 eb).2
 simp[hw,eqOk,eqV];exact qaa rfl rfl rfl
end Go.Proofs.YtbifpocccfkhhaaGreatDoor
namespace Go.Proofs.YtbifpocccfkhhaaGreatDoor
open Go Go.ChangeShapes Go.WideShapes Go.ChangeAt Go.RowKit
def CR(W:World)(vs:List V)(cs:List Value):Prop:=vs.length=cs.length∧∀(j:Nat) (v:V) (c:Value),vs[j]?=some v→cs[j]?=some c→VR (E0 W) v c
def Fitw{H:Type}(t:TypeId)(d:DataW H):Prop:=∀n,n∈d.weights Tryz.prog t→n≤reachBytes
theorem reach_le{n:Nat}(h:n≤reachBytes):n≤B50:=by unfold reachBytes at h;unfold B50;omega
section
variable {H:Type} {enc:TypeId×Value→H} {W:World}
theorem weightsAll_mem{e:TypeId}{n:Nat}:∀{l:List (DataW H)} {d:DataW H},d∈l→n∈d.weights Tryz.prog e→n∈DataW.weightsAll Tryz.prog e l
 | x::l,d,hd,hn=>by
  rw[DataW.weightsAll];rcases quc.1 hd with rfl|hd
  ·exact qvh _ hn
  ·exact qvf _ (weightsAll_mem hd hn)
theorem weightsEach_mem{n:Nat}:∀{ts:List TypeId} {l:List (DataW H)} {i:Nat} {t:TypeId} {d:DataW H},ts[i]?=some t→l[i]?=some d→n∈d.weights Tryz.prog t→n∈DataW.weightsEach Tryz.prog ts l
 | t0::ts,d0::l,0,t,d,ht,hd,hn=>by
  simp at ht hd;subst ht;subst hd;rw[DataW.weightsEach];exact qvh _ hn
 | t0::ts,d0::l,i+1,t,d,ht,hd,hn=>by
  rw[DataW.weightsEach];exact qvf _ (weightsEach_mem (i:=i) (by simpa using ht) (by simpa using hd) hn)
theorem Fitw.part{t:TypeId}{fs:Array Field}(ht:Tryz.prog.underlying t=some (.struct fs)){l:List (DataW H)}(h:Fitw t (.agg l)){i:Nat}{f:Field}{d:DataW H}(hf:fs[i]?=some f)(hd:l[i]?=some d):Fitw f.type d:=fun n hn=>h n (by
 rw[DataW.weights,ht];exact weightsEach_mem (i:=i) (t:=f.type) (by simp[hf]) hd hn)
theorem Fitw.elem{t e:TypeId}(ht:Tryz.prog.underlying t=some (.slice e)){l r:List (DataW H)}(h:Fitw t (.slice l r)){d:DataW H}(hd:d∈l):Fitw e d:=fun n hn=>h n (by
 rw[DataW.weights,ht];exact qvg _ (qvh _ (weightsAll_mem hd hn)))
theorem Fitw.len{t e:TypeId}(ht:Tryz.prog.underlying t=some (.slice e))(hb:0<Tryz.prog.bytesOf e){l r:List (DataW H)}(h:Fitw t (.slice l r)):l.length≤B50:=by
 have:=h ((l.length+r.length) * Tryz.prog.bytesOf e) (by rw[DataW.weights,ht];exact List.mem_cons_self ..);refine reach_le (quF ?_ this)
 calc l.length≤(l.length+r.length) * 1:=by omega
  _≤_:=Nat.mul_le_mul_left _ hb
theorem spot_none{a:Addr}{v:Value}(h:W.cell? a=some v):a.spot=none:=by
 unfold World.cell? at h;split at h
 ·split at h
  ·cases h
  ·rename_i hs;simpa using hs
 ·cases h
theorem add_off{b o k:Nat}:(Addr.add ⟨b,o,none⟩ k)=⟨b,o+k,none⟩:=by
 unfold Addr.add;split
 ·rename_i h;subst h;rfl
 ·rfl
theorem slice_in{α:Type}(f:α→V)(ok:α→Prop){sz:Nat}(hsz:∀a,(f a).cells.length=sz)(hz:0<sz){t e:TypeId}(ht:Tryz.prog.underlying t=some (.slice e))(hc:Tryz.prog.cellsOf e=sz)(hb:0<Tryz.prog.bytesOf e){fuel:Nat}
  (hel:∀n,n<fuel→∀cs (x:DataW H×List MemPlace),DataW.trod enc Tryz.prog W 0 (fun _=>true) true n e cs=some x→Fitw e x.1→∃a,ok a∧CR W (f a).cells cs)
  {cs:List Value} {x:DataW H×List MemPlace} (h:DataW.trod enc Tryz.prog W 0 (fun _=>true) true fuel t cs=some x) (hw:Fitw t x.1):
  ∃l:List α,(∀a,a∈l→ok a)∧l.length≤B50∧∃v,cs=[v]∧VR (E0 W) (.sl false (l.map f)) v:=by
 rcases DataW.trod_slice ht h with ⟨rfl,_⟩|⟨a,len,cap,elems,rest,n,rfl,rfl,rfl,_,hl,_,hlen,h1,h2,_⟩
 ·exact ⟨[],fun a ha=>(by cases ha),quj _,_,rfl,.slnil _⟩
 obtain ⟨h2a,h2b⟩:=h2 rfl;rw[hc] at h1 h2b;have hle:=Fitw.len ht hb hw;rw[qtN] at hle
 have each:∀i,i<len→∃b,ok b∧∃cs',W.cells? 0 (a.add (i * sz)) sz=some cs'∧CR W (f b).cells cs':=fun i hi=>by
  have hi':i<elems.length:=by omega
  have:=h1 i hi;rw[qtF hi',quv] at this;obtain ⟨cs',k1,k2⟩:=this;obtain ⟨b,k3,k4⟩:=hel n (by omega) cs' _ k2 (Fitw.elem ht hw (qup (qtM hi')));exact ⟨b,k3,cs',k1,k4⟩
 by_cases hcap:cap=0
 ·have:len=0:=by omega
  subst hcap;subst this;exact ⟨[],fun a ha=>(by cases ha),quj _,_,rfl,.slz _ _⟩
 have hspot:a.spot=none:=by
  have read:∀cs',W.cells? 0 (a.add (0 * sz)) sz=some cs'→a.spot=none:=fun cs' k=>by
   obtain ⟨_,q1,q2⟩:=World.cells?_some k;have:=q2 0 hz;have hcs:0<cs'.length:=by omega
   rw[qtF hcs] at this;have:=spot_none this;simpa[Addr.add] using this
  by_cases h0:0<len
  ·obtain ⟨_,_,cs',k,_⟩:=each 0 h0;exact read cs' k
  ·have hl0:len=0:=by omega
   have:=h2b 0 (by omega);obtain ⟨y0,hy0⟩:∃y,rest[0]?=some y:=⟨_,qtF (by omega)⟩;rw[hy0,quv] at this;obtain ⟨cs',k,_⟩:=this;rw[hl0] at k;exact read cs' (by simpa using k)
 obtain ⟨b,o,spot⟩:=a;simp only at hspot;subst hspot;obtain ⟨g,hg⟩:∃g:Fin len→α,∀i,ok (g i)∧∃cs',W.cells? 0 (Addr.add ⟨b,o,none⟩ (i.1 * sz)) sz=some cs'∧CR W (f (g i)).cells cs':=⟨fun i=>Classical.choose (each i.1 i.2),fun i=>Classical.choose_spec (each i.1 i.2)⟩;have hll:(List.ofFn g).length=len:=List.length_ofFn;have hl2:((List.ofFn g).map f).length=len:=by rw[qtN,hll]
 have cell:∀i (hi:i<len) j,j<sz→∃c,W.cell? ⟨b,o+i * sz+j,none⟩=some c∧∀v,(f (g ⟨i,hi⟩)).cells[j]?=some v→VR (E0 W) v c:=fun i hi j hj=>by
  obtain ⟨_,cs',k1,k2,k3⟩:=hg ⟨i,hi⟩;obtain ⟨_,q1,q2⟩:=World.cells?_some k1;have q:=q2 j hj;have hj':j<cs'.length:=by omega
  rw[qtF hj',add_off,add_off] at q;exact ⟨_,q,fun v hv=>k3 j v _ hv (qtF hj')⟩
 refine ⟨List.ofFn g,fun a ha=>?_,by omega,_,rfl,?_⟩
 ·obtain ⟨i,rfl⟩:=List.mem_ofFn.1 ha;exact (hg i).1
 ·have:=@VR.sl (E0 W) false ((List.ofFn g).map f) b o cap sz (by omega) (fun h=>by cases h) (fun v hv=>?_) (fun i j hi hj=>?_) (fun i v j c' c hv hc hI=>?_)
  ·rw[hl2] at this;exact this
  ·obtain ⟨y,_,rfl⟩:=qt3.1 hv;exact hsz y
  ·rw[hl2] at hi;obtain ⟨c,hc,_⟩:=cell i hi j hj;simp only[E0,hc];rfl
  ·rw[qtV,qtK] at hv;obtain ⟨y,hy,rfl⟩:=hv;rw[List.getElem?_ofFn] at hy;split at hy
   ·rename_i hi;cases hy;have hj:j<sz:=by have:=(qtB.1 hc).1;rw[hsz] at this;exact this
    obtain ⟨c2,hc2,hv2⟩:=cell i hi j hj;simp only[E0,hc2] at hI;cases hI;exact hv2 _ hc
   ·cases hy
theorem piece{cs l:List Value}{o k i:Nat}(h:(cs.drop o).take k=l)(hi:i<k):cs[o+i]?=l[i]?:=by
 rw[←h,qt9 hi,qun]
theorem CR_of{vs:List V}{cs:List Value}(hl:vs.length=cs.length)(h:∀(j:Nat) (v:V),vs[j]?=some v→∃c,cs[j]?=some c∧VR (E0 W) v c):CR W vs cs:=
 ⟨hl,fun j v c hv hc=>by
  obtain ⟨c',h1,h2⟩:=h j v hv;rw[h1] at hc;cases hc;exact h2⟩
theorem Ex.okL_of:∀{l:List Ex},(∀x,x∈l→x.ok)→Ex.okL l
 | [],_=>trivial
 | x::l,h=>⟨h x (by simp),Ex.okL_of fun y hy=>h y (by simp[hy])⟩
theorem De.okL_of:∀{l:List De},(∀x,x∈l→x.ok)→De.okL l
 | [],_=>by rw[De.okL];exact trivial
 | x::l,h=>by rw[De.okL];exact ⟨h x (by simp),De.okL_of fun y hy=>h y (by simp[hy])⟩
theorem Sm.okL_of:∀{l:List Sm},(∀x,x∈l→x.ok)→Sm.okL l
 | [],_=>by rw[Sm.okL];exact trivial
 | x::l,h=>by rw[Sm.okL];exact ⟨h x (by simp),Sm.okL_of fun y hy=>h y (by simp[hy])⟩
theorem kc3:Tryz.prog.cellsOf 3=1:=by kernel_rfl
theorem kc4t:Tryz.prog.cellsOf 4=1:=by kernel_rfl
theorem kc9:Tryz.prog.cellsOf 9=1:=by kernel_rfl
theorem kc22:Tryz.prog.cellsOf 22=1:=by kernel_rfl
theorem kc23:Tryz.prog.cellsOf 23=1:=by kernel_rfl
theorem kc24t:Tryz.prog.cellsOf 24=1:=by kernel_rfl
theorem kc25t:Tryz.prog.cellsOf 25=1:=by kernel_rfl
theorem kc26t:Tryz.prog.cellsOf 26=1:=by kernel_rfl
theorem kc40t:Tryz.prog.cellsOf 40=1:=by kernel_rfl
theorem kc52t:Tryz.prog.cellsOf 52=2:=by kernel_rfl
theorem kc54:Tryz.prog.cellsOf 54=7:=by kernel_rfl
theorem kc135t:Tryz.prog.cellsOf 135=2:=by kernel_rfl
theorem kc87t:Tryz.prog.cellsOf 87=4:=by kernel_rfl
theorem kc42t:Tryz.prog.cellsOf 42=7:=by kernel_rfl
theorem kc28t:Tryz.prog.cellsOf 28=8:=by kernel_rfl
theorem y9:0<Tryz.prog.bytesOf 9:=by decide+kernel
theorem y54:0<Tryz.prog.bytesOf 54:=by decide+kernel
theorem y135:0<Tryz.prog.bytesOf 135:=by decide+kernel
theorem y87:0<Tryz.prog.bytesOf 87:=by decide+kernel
theorem y42:0<Tryz.prog.bytesOf 42:=by decide+kernel
theorem y28:0<Tryz.prog.bytesOf 28:=by decide+kernel
theorem int_at{n o:Nat}{cs:List Value}{y:DataW H×List MemPlace}(h:DataW.trod enc Tryz.prog W 0 (fun _=>true) true n 3 ((cs.drop o).take (Tryz.prog.cellsOf 3))=some y):∃k,cs[o]?=some (.int .i64 k):=by
 obtain ⟨k,hk,_⟩:=DataW.trod_int Tryz.underlying3 h;rw[kc3] at hk;exact ⟨k,by have:=piece hk (i:=0) (by omega);simpa using this⟩
theorem bool_at{n o:Nat}{cs:List Value}{y:DataW H×List MemPlace}(h:DataW.trod enc Tryz.prog W 0 (fun _=>true) true n 4 ((cs.drop o).take (Tryz.prog.cellsOf 4))=some y):∃k,cs[o]?=some (.bool k):=by
 obtain ⟨k,hk,_⟩:=DataW.trod_bool Tryz.underlying4 h;rw[kc4t] at hk;exact ⟨k,by have:=piece hk (i:=0) (by omega);simpa using this⟩
theorem str_at{n o:Nat}{cs:List Value}{y:DataW H×List MemPlace}(h:DataW.trod enc Tryz.prog W 0 (fun _=>true) true n 9 ((cs.drop o).take (Tryz.prog.cellsOf 9))=some y)(hw:Fitw 9 y.1):∃s:ByteArray,cs[o]?=some (.string s)∧s.size≤B50:=by
 obtain ⟨k,hk,hy,_⟩:=DataW.trod_string Tryz.underlying9 h;rw[kc9] at hk;refine ⟨k,by have:=piece hk (i:=0) (by omega);simpa using this,?_⟩;have:=hw k.size (by rw[hy,DataW.weights];exact quH.2 (by rw[quK];rfl));exact reach_le this
theorem slice_at{α:Type}(f:α→V)(ok:α→Prop){sz:Nat}(hsz:∀a,(f a).cells.length=sz)(hz:0<sz){t e:TypeId}(ht:Tryz.prog.underlying t=some (.slice e))(hc:Tryz.prog.cellsOf e=sz)(hb:0<Tryz.prog.bytesOf e)(h1:Tryz.prog.cellsOf t=1){n o:Nat}
  (hel:∀m,m<n→∀cs (x:DataW H×List MemPlace),DataW.trod enc Tryz.prog W 0 (fun _=>true) true m e cs=some x→Fitw e x.1→∃a,ok a∧CR W (f a).cells cs)
  {cs:List Value} {y:DataW H×List MemPlace} (h:DataW.trod enc Tryz.prog W 0 (fun _=>true) true n t ((cs.drop o).take (Tryz.prog.cellsOf t))=some y) (hw:Fitw t y.1):
  ∃l:List α,(∀a,a∈l→ok a)∧l.length≤B50∧∃v,cs[o]?=some v∧VR (E0 W) (.sl false (l.map f)) v:=by
 obtain ⟨l,k1,k2,v,k3,k4⟩:=slice_in f ok hsz hz ht hc hb hel h hw;rw[h1] at k3;exact ⟨l,k1,k2,v,by have:=piece k3 (i:=0) (by omega);simpa using this,k4⟩
theorem strs_el{n:Nat}:∀m,m<n→∀cs (x:DataW H×List MemPlace),DataW.trod enc Tryz.prog W 0 (fun _=>true) true m 9 cs=some x→Fitw 9 x.1→∃s:ByteArray,s.size≤B50∧CR W (V.str s).cells cs:=by
 intro m _ cs x h hw;obtain ⟨k,rfl,hy,_⟩:=DataW.trod_string Tryz.underlying9 h;refine ⟨k,reach_le (hw k.size (by rw[hy,DataW.weights];exact quH.2 (by rw[quK];rfl))),rfl,fun j v c hv hc=>?_⟩
 match j,hv,hc with
 | 0,hv,hc=>simp at hv hc;subst hv;subst hc;exact .str k
theorem parts{t:TypeId}{fs:Array Field}(ht:Tryz.prog.underlying t=some (.struct fs)){fuel:Nat}{cs:List Value}{x:DataW H×List MemPlace}(h:DataW.trod enc Tryz.prog W 0 (fun _=>true) true fuel t cs=some x)(hw:Fitw t x.1):
  ∃n,n<fuel∧cs.length=Tryz.prog.cellsOf t∧∀(i:Nat) (f:Field),fs[i]?=some f→∃y:DataW H×List MemPlace,DataW.trod enc Tryz.prog W 0 (fun _=>true) true n f.type ((cs.drop f.offset).take (Tryz.prog.cellsOf f.type))=some y∧Fitw f.type y.1:=by
 obtain ⟨xs,n,rfl,rfl,h1,h2,h3⟩:=DataW.trod_struct ht h;refine ⟨n,by omega,h1,fun i f hf=>?_⟩
 have hi:i<xs.length:=by
  have:=(qtS.1 hf).1;omega
 have:=h3 i f hf;rw[qtF hi] at this;exact ⟨xs[i],this,Fitw.part ht hw hf (by simp[hi])⟩
theorem ex_in:∀(m fuel:Nat),fuel≤m→∀cs (x:DataW H×List MemPlace),DataW.trod enc Tryz.prog W 0 (fun _=>true) true fuel 54 cs=some x→Fitw 54 x.1→∃a:Ex,a.ok∧CR W a.v.cells cs
 | 0,fuel,hm,cs,x,h,hw=>by
  obtain ⟨n,hn,_⟩:=parts Tryz.underlying54 h hw;omega
 | m+1,fuel,hm,cs,x,h,hw=>by
  obtain ⟨n,hn,hl,hp⟩:=parts Tryz.underlying54 h hw;obtain ⟨y0,p0,q0⟩:=hp 0 _ rfl;obtain ⟨y1,p1,q1⟩:=hp 1 _ rfl;obtain ⟨y2,p2,q2⟩:=hp 2 _ rfl;obtain ⟨y3,p3,q3⟩:=hp 3 _ rfl;obtain ⟨y4,p4,q4⟩:=hp 4 _ rfl;obtain ⟨y5,p5,q5⟩:=hp 5 _ rfl;obtain ⟨k0,e0⟩:=int_at p0;obtain ⟨k1,e1⟩:=int_at p1;obtain ⟨k2,e2⟩:=int_at p2;obtain ⟨n3,hn3,hl3,hp3⟩:=parts Tryz.underlying52 p3 q3;obtain ⟨z0,r0,_⟩:=hp3 0 _ rfl;obtain ⟨z1,r1,_⟩:=hp3 1 _ rfl;obtain ⟨k3,e3⟩:=int_at r0;obtain ⟨k4,e4⟩:=int_at r1;obtain ⟨s,e5,hs⟩:=str_at p4 q4;obtain ⟨l,hlo,hll,v,e6,hv⟩:=slice_at Ex.v Ex.ok (sz:=7) (fun a=>by simp) (by omega) Tryz.underlying23 kc54 y54 kc23 (fun m' hm'=>ex_in m m' (by omega)) p5 q5;have e3:((cs.drop 3).take 2)[0]?=some (.int .i64 k3):=by rw[←kc52t];exact e3
  have e4:((cs.drop 3).take 2)[1]?=some (.int .i64 k4):=by rw[←kc52t];exact e4
  rw[qt9 (by omega),qun] at e3 e4;refine ⟨.mk k0 k1 k2 k3 k4 s l,⟨hs,hll,Ex.okL_of hlo⟩,CR_of ?_ ?_⟩
  ·rw[hl,kc54];simp
  ·intro j w hw';rw[Ex.v_cells] at hw'
   match j,hw' with
   | 0,hw'=>cases hw';exact ⟨_,e0,.int _ _⟩
   | 1,hw'=>cases hw';exact ⟨_,e1,.int _ _⟩
   | 2,hw'=>cases hw';exact ⟨_,e2,.int _ _⟩
   | 3,hw'=>cases hw';exact ⟨_,e3,.int _ _⟩
   | 4,hw'=>cases hw';exact ⟨_,e4,.int _ _⟩
   | 5,hw'=>cases hw';exact ⟨_,e5,.str _⟩
   | 6,hw'=>cases hw';exact ⟨_,e6,hv⟩
theorem el_in{fuel:Nat}{cs:List Value}{x:DataW H×List MemPlace}(h:DataW.trod enc Tryz.prog W 0 (fun _=>true) true fuel 135 cs=some x)(hw:Fitw 135 x.1):∃a:El,a.ok∧CR W a.v.cells cs:=by
 obtain ⟨n,hn,hl,hp⟩:=parts Tryz.underlying135 h hw;obtain ⟨y0,p0,q0⟩:=hp 0 _ rfl;obtain ⟨y1,p1,q1⟩:=hp 1 _ rfl;obtain ⟨k0,e0⟩:=int_at p0;obtain ⟨l,hlo,hll,v,e1,hv⟩:=slice_at Ex.v Ex.ok (sz:=7) (fun a=>by simp) (by omega) Tryz.underlying23 kc54 y54 kc23 (fun m' hm'=>ex_in m' m' (qtH _)) p1 q1;refine ⟨⟨k0,l⟩,⟨hll,Ex.okL_of hlo⟩,CR_of ?_ ?_⟩
 ·rw[hl,kc135t];rfl
 ·intro j w hw';rw[El.v_cells] at hw'
  match j,hw' with
  | 0,hw'=>cases hw';exact ⟨_,e0,.int _ _⟩
  | 1,hw'=>cases hw';exact ⟨_,e1,hv⟩
theorem fo_in{fuel:Nat}{cs:List Value}{x:DataW H×List MemPlace}(h:DataW.trod enc Tryz.prog W 0 (fun _=>true) true fuel 87 cs=some x)(hw:Fitw 87 x.1):∃a:Fo,a.ok∧CR W a.v.cells cs:=by
 obtain ⟨n,hn,hl,hp⟩:=parts Tryz.underlying87 h hw;obtain ⟨y0,p0,q0⟩:=hp 0 _ rfl;obtain ⟨y1,p1,q1⟩:=hp 1 _ rfl;obtain ⟨y2,p2,q2⟩:=hp 2 _ rfl;obtain ⟨y3,p3,q3⟩:=hp 3 _ rfl;obtain ⟨s,e0,hs⟩:=str_at p0 q0;obtain ⟨k1,e1⟩:=bool_at p1;obtain ⟨k2,e2⟩:=int_at p2;obtain ⟨k3,e3⟩:=int_at p3;refine ⟨⟨s,k1,k2,k3⟩,hs,CR_of ?_ ?_⟩
 ·rw[hl,kc87t];rfl
 ·intro j w hw';rw[Fo.v_cells] at hw'
  match j,hw' with
  | 0,hw'=>cases hw';exact ⟨_,e0,.str _⟩
  | 1,hw'=>cases hw';exact ⟨_,e1,.bool _⟩
  | 2,hw'=>cases hw';exact ⟨_,e2,.int _ _⟩
  | 3,hw'=>cases hw';exact ⟨_,e3,.int _ _⟩
theorem exs_at{n o:Nat}{cs:List Value}{y:DataW H×List MemPlace}(h:DataW.trod enc Tryz.prog W 0 (fun _=>true) true n 23 ((cs.drop o).take (Tryz.prog.cellsOf 23))=some y)(hw:Fitw 23 y.1):
  ∃l:List Ex,(l.length≤B50∧Ex.okL l)∧∃v,cs[o]?=some v∧VR (E0 W) (.sl false (l.map Ex.v)) v:=by
 obtain ⟨l,hlo,hll,hv⟩:=slice_at Ex.v Ex.ok (sz:=7) (fun a=>by simp) (by omega) Tryz.underlying23 kc54 y54 kc23 (fun m' hm'=>ex_in m' m' (qtH _)) h hw;exact ⟨l,⟨hll,Ex.okL_of hlo⟩,hv⟩
theorem strs_at{n o:Nat}{cs:List Value}{y:DataW H×List MemPlace}(h:DataW.trod enc Tryz.prog W 0 (fun _=>true) true n 22 ((cs.drop o).take (Tryz.prog.cellsOf 22))=some y)(hw:Fitw 22 y.1):
  ∃l:List ByteArray,okS l∧∃v,cs[o]?=some v∧VR (E0 W) (.sl false (l.map .str)) v:=by
 obtain ⟨l,hlo,hll,hv⟩:=slice_at V.str (fun s=>s.size≤B50) (sz:=1) (fun a=>rfl) (by omega) Tryz.underlying22 kc9 y9 kc22 strs_el h hw;exact ⟨l,⟨hll,hlo⟩,hv⟩
theorem tree_in:∀(m fuel:Nat),fuel≤m→(∀cs (x:DataW H×List MemPlace),DataW.trod enc Tryz.prog W 0 (fun _=>true) true fuel 42 cs=some x→Fitw 42 x.1→∃a:De,a.ok∧CR W a.v.cells cs)∧
  ∀cs (x:DataW H×List MemPlace),DataW.trod enc Tryz.prog W 0 (fun _=>true) true fuel 28 cs=some x→Fitw 28 x.1→∃a:Sm,a.ok∧CR W a.v.cells cs
 | 0,fuel,hm=>by
  refine ⟨fun cs x h hw=>?_,fun cs x h hw=>?_⟩
  ·obtain ⟨n,hn,_⟩:=parts Tryz.underlying42 h hw;omega
  ·obtain ⟨n,hn,_⟩:=parts Tryz.underlying28 h hw;omega
 | m+1,fuel,hm=>by
  refine ⟨fun cs x h hw=>?_,fun cs x h hw=>?_⟩
  ·obtain ⟨n,hn,hl,hp⟩:=parts Tryz.underlying42 h hw;obtain ⟨y0,p0,q0⟩:=hp 0 _ rfl;obtain ⟨y1,p1,q1⟩:=hp 1 _ rfl;obtain ⟨y2,p2,q2⟩:=hp 2 _ rfl;obtain ⟨y3,p3,q3⟩:=hp 3 _ rfl;obtain ⟨y4,p4,q4⟩:=hp 4 _ rfl;obtain ⟨y5,p5,q5⟩:=hp 5 _ rfl;obtain ⟨y6,p6,q6⟩:=hp 6 _ rfl;obtain ⟨k0,e0⟩:=int_at p0;obtain ⟨k1,e1⟩:=bool_at p1;obtain ⟨k2,e2⟩:=int_at p2;obtain ⟨nm,on,v3,e3,h3⟩:=strs_at p3 q3;obtain ⟨ex,oe,v4,e4,h4⟩:=exs_at p4 q4;obtain ⟨fo,of,lf,v5,e5,h5⟩:=slice_at Fo.v Fo.ok (sz:=4) (fun a=>rfl) (by omega) Tryz.underlying40 kc87t y87 kc40t (fun m' hm' cs x=>fo_in) p5 q5;obtain ⟨bo,ob,lb,v6,e6,h6⟩:=slice_at Sm.v Sm.ok (sz:=8) (fun a=>by simp) (by omega) Tryz.underlying26 kc28t y28 kc26t (fun m' hm'=>(tree_in m m' (by omega)).2) p6 q6;refine ⟨.mk k0 k1 k2 nm ex fo bo,(De.ok_iff _).2 ⟨on,oe,⟨lf,of⟩,⟨lb,Sm.okL_of ob⟩⟩,CR_of ?_ ?_⟩
   ·rw[hl,kc42t];simp
   ·intro j w hw';rw[De.v_cells] at hw'
    match j,hw' with
    | 0,hw'=>cases hw';exact ⟨_,e0,.int _ _⟩
    | 1,hw'=>cases hw';exact ⟨_,e1,.bool _⟩
    | 2,hw'=>cases hw';exact ⟨_,e2,.int _ _⟩
    | 3,hw'=>cases hw';exact ⟨_,e3,h3⟩
    | 4,hw'=>cases hw';exact ⟨_,e4,h4⟩
    | 5,hw'=>cases hw';exact ⟨_,e5,h5⟩
    | 6,hw'=>cases hw';exact ⟨_,e6,h6⟩
  ·obtain ⟨n,hn,hl,hp⟩:=parts Tryz.underlying28 h hw;obtain ⟨y0,p0,q0⟩:=hp 0 _ rfl;obtain ⟨y1,p1,q1⟩:=hp 1 _ rfl;obtain ⟨y2,p2,q2⟩:=hp 2 _ rfl;obtain ⟨y3,p3,q3⟩:=hp 3 _ rfl;obtain ⟨y4,p4,q4⟩:=hp 4 _ rfl;obtain ⟨y5,p5,q5⟩:=hp 5 _ rfl;obtain ⟨y6,p6,q6⟩:=hp 6 _ rfl;obtain ⟨y7,p7,q7⟩:=hp 7 _ rfl;obtain ⟨lb,ol,v0,e0,h0⟩:=strs_at p0 q0;obtain ⟨k1,e1⟩:=int_at p1;obtain ⟨s,e2,hs⟩:=str_at p2 q2;obtain ⟨tg,ot,v3,e3,h3⟩:=exs_at p3 q3;obtain ⟨ex,oe,v4,e4,h4⟩:=exs_at p4 q4;obtain ⟨el,oel,lel,v5,e5,h5⟩:=slice_at El.v El.ok (sz:=2) (fun a=>rfl) (by omega) Tryz.underlying24 kc135t y135 kc24t (fun m' hm' cs x=>el_in) p5 q5;obtain ⟨de,od,ld,v6,e6,h6⟩:=slice_at De.v De.ok (sz:=7) (fun a=>by simp) (by omega) Tryz.underlying25 kc42t y42 kc25t (fun m' hm'=>(tree_in m m' (by omega)).1) p6 q6;obtain ⟨bo,ob,lbo,v7,e7,h7⟩:=slice_at Sm.v Sm.ok (sz:=8) (fun a=>by simp) (by omega) Tryz.underlying26 kc28t y28 kc26t (fun m' hm'=>(tree_in m m' (by omega)).2) p7 q7;refine ⟨.mk lb k1 s tg ex el de bo,(Sm.ok_iff _).2 ⟨ol,hs,ot,oe,⟨lel,oel⟩,⟨ld,De.okL_of od⟩,⟨lbo,Sm.okL_of ob⟩⟩,CR_of ?_ ?_⟩
   ·rw[hl,kc28t];simp
   ·intro j w hw';rw[Sm.v_cells] at hw'
    match j,hw' with
    | 0,hw'=>cases hw';exact ⟨_,e0,h0⟩
    | 1,hw'=>cases hw';exact ⟨_,e1,.int _ _⟩
    | 2,hw'=>cases hw';exact ⟨_,e2,.str _⟩
    | 3,hw'=>cases hw';exact ⟨_,e3,h3⟩
    | 4,hw'=>cases hw';exact ⟨_,e4,h4⟩
    | 5,hw'=>cases hw';exact ⟨_,e5,h5⟩
    | 6,hw'=>cases hw';exact ⟨_,e6,h6⟩
    | 7,hw'=>cases hw';exact ⟨_,e7,h7⟩
set_option maxRecDepth 100000
theorem agg_of{vs:List V}{v:Value}{cs:Array Value}(hv:v=.agg cs)(h:CR W vs v.cells.toList):VR (E0 W) (.agg vs) v:=by
 subst hv;refine .agg (by have:=h.1;simpa[Value.cells] using this) fun i x u hx hu=>h.2 i x u hx (by simpa[Value.cells] using hu)
theorem stmt_in{base:Nat}{v:Value}{d:DataW H}{p:List MemPlace}(hval:Value.okWide Tryz.prog W .any base 28 v)(h:DataW.Trod enc Tryz.prog W 0 (fun _=>true) true 28 v d p)(hw:Fitw 28 d):∃s:Sm,s.ok∧VR (E0 W) s.v v:=by
 obtain ⟨fuel,h⟩:=h;obtain ⟨s,hs,hc⟩:=(tree_in fuel fuel (qtH _)).2 _ _ h hw;unfold Value.okWide at hval;rw[Tryz.underlying28] at hval;obtain ⟨cs,hv,_⟩:=hval;rw[Sm.v_cells] at hc;exact ⟨s,hs,by rw[Sm.v_eq];exact agg_of hv hc⟩
theorem fitw_of{ts:List TypeId}{ds:List (DataW H)}(h:(DataW.weightsEach Tryz.prog ts ds).all (·≤reachBytes)=true){i:Nat}{t:TypeId}{d:DataW H}(ht:ts[i]?=some t)(hd:ds[i]?=some d):Fitw t d:=fun n hn=>by
 have:=qtY.1 h n (weightsEach_mem ht hd hn);simpa using this
end
end Go.Proofs.YtbifpocccfkhhaaGreatDoor
namespace Go.Proofs.YtbifpocccfkhhaaGreatDoor
open Go Go.ChangeShapes Go.WideShapes Go.ChangeAt Go.RowKit
set_option maxRecDepth 100000
section
variable {H:Type} {enc:TypeId×Value→H} {W:World}
theorem trodAll_cons{P:Program}{t:TypeId}{ts:List TypeId}{vs:List Value}{ds:List (DataW H)}{ps:List MemPlace}(h:DataW.TrodAll enc P W 0 (fun _=>true) true (t::ts) vs ds ps):
  ∃v vs' d ds' p q,vs=v::vs'∧ds=d::ds'∧DataW.Trod enc P W 0 (fun _=>true) true t v d p∧DataW.TrodAll enc P W 0 (fun _=>true) true ts vs' ds' q:=by
 cases vs with
 | nil=>exact h.elim
 | cons v vs=>
  cases ds with
  | nil=>exact h.elim
  | cons d ds=>
   obtain ⟨p,q,h1,h2,_⟩:=h;exact ⟨v,vs,d,ds,p,q,rfl,rfl,h1,h2⟩
theorem trodAll_nil{P:Program}{vs:List Value}{ds:List (DataW H)}{ps:List MemPlace}(h:DataW.TrodAll enc P W 0 (fun _=>true) true [] vs ds ps):vs=[]∧ds=[]:=by
 cases vs with
 | nil=>
  cases ds with
  | nil=>exact ⟨rfl,rfl⟩
  | cons d ds=>exact h.elim
 | cons v vs=>cases ds <;> exact h.elim
end
end Go.Proofs.YtbifpocccfkhhaaGreatDoor
namespace Go.Proofs.YtbifpocccfkhhaaGreatDoor.copyAlikes
open Go Go.ChangeShapes Go.WideShapes Go.ChangeAt Go.RowKit
set_option maxRecDepth 100000
theorem own:ownKnob Tryz.prog.godebug=none:=by kernel_rfl
theorem contract(H:Type)(enc:TypeId×Value→H)(W:World)(base:Nat)(args:Array Value)(ds gs:List (DataW H))(before:List MemPlace)
  (hval:∀(j:Nat) t v,Tryz.f4.params[j]?=some t→args[j]?=some v→Value.okWide Tryz.prog W .any base t v)
  (hW:DataW.Whole enc Tryz.prog Tryz.f4.params.toList Rows.copyAlikesSpec.vars false W args.toList ds gs before)
  (hwt:(DataW.weightsEach Tryz.prog (Tryz.f4.params.toList++(OpenSpec.ofChange Rows.copyAlikesSpec).bare.plain.varTypes Tryz.prog) (ds++gs)).all (·≤reachBytes)=true) (hL:laidMetH Tryz.prog Rows.copyAlikesRow.laid W):
  Calls Tryz.prog 4 args W fun e W'=>∃v,e=.returned v∧Rows.copyAlikesSpec.post enc Tryz.prog Tryz.f4 false true false false W args v W':=by
 have hW':=hW;obtain ⟨p,q,hA0,hV,rfl,hfz,hnd⟩:=hW;have hA:DataW.TrodAll enc Tryz.prog W 0 (fun _=>true) true Tryz.f4.params.toList args.toList ds p:=hA0;rw[Tryz.params4] at hA hval hwt;obtain ⟨v0,vs0,d0,ds0,p0,q0,hv0,hd0,h0,hA0⟩:=trodAll_cons hA;obtain ⟨v1,vs1,d1,ds1,p1,q1,hv1,hd1,h1,hA1⟩:=trodAll_cons hA0;obtain ⟨hve,hde⟩:=trodAll_nil hA1;have hds:ds=[d0,d1]:=by rw[hd0,hd1,hde]
 have hargs:args=#[v0,v1]:=by
  apply qvr.1;rw[hv0,hv1,hve]
 subst hds hargs;obtain ⟨rfl,rfl⟩:=trodVars_none hV;rw[quW] at hwt;obtain ⟨a0,o0,r0⟩:=stmt_in (hval 0 28 v0 rfl rfl) h0 (fitw_of hwt (i:=0) rfl rfl);obtain ⟨a1,o1,r1⟩:=stmt_in (hval 1 28 v1 rfl rfl) h1 (fitw_of hwt (i:=1) rfl rfl);refine law_of (qtv a0 a1 o0 o1) (SR.start hL) ⟨rfl,fun i v u hv hu=>?_⟩ (by kernel_rfl) rfl rfl hW' rfl
 match i,hv,hu with
 | 0,hv,hu=>cases hv;cases hu;exact r0
 | 1,hv,hu=>cases hv;cases hu;exact r1
noncomputable def laidWorld(os:Os):World:=
 let N:=(World.settled Tryz.prog os).heap.size
 let w0:=World.holding Tryz.prog os ⟨#[.cells (#[9,13,1,32,133,101,160,5760,5600,8192,8202,1,8232,8233,1,8239,8287,48,12288,12288,1].map fun (z:Nat)=>Value.int .u16 (z:Int)) 279,.cells #[.slice (some ⟨N,0,none⟩) 7 7,.slice none 0 0,.int .i64 2] 276],#[],[]⟩
 let put (h:Array Obj) (g:Nat) (cs:Array Value):Array Obj:=h.modify g fun
  | .cells _ t frozen=>.cells cs t frozen
  | o=>o
 let h1:=put w0.heap 0 (Lib.asciiSpaceTab.map fun z=>Value.int .u8 z).toArray
 let h2:=put h1 1 #[.pointer (some ⟨N+1,0,none⟩)]
 let h3:=put h2 2 (Lib.pow10Tab.map fun z=>Value.int .u64 z).toArray
 let h4:=put h3 3 (#[0,1,28,2,29,14,24,3,30,22,20,15,25,17,4,8,31,27,13,23,21,19,16,7,26,12,18,6,11,5,10,9].map fun (z:Nat)=>Value.int .u8 (z:Int))
 let h5:=put h4 4 (#[0,1,56,2,57,49,28,3,61,58,42,50,38,29,17,4,62,47,59,36,45,43,51,22,53,39,33,30,24,18,12,5,63,55,48,27,60,41,37,16,46,35,44,21,52,32,23,11,54,26,40,15,34,20,31,10,25,14,19,9,13,8,7,6].map fun (z:Nat)=>Value.int .u8 (z:Int))
 { w0 with heap:=h5 }
def wArgs:Array Value:=#[.agg #[.slice none 0 0,.int .i64 0,.string ⟨#[]⟩,.slice none 0 0,.slice none 0 0,.slice none 0 0,.slice none 0 0,.slice none 0 0],.agg #[.slice none 0 0,.int .i64 0,.string ⟨#[]⟩,.slice none 0 0,.slice none 0 0,.slice none 0 0,.slice none 0 0,.slice none 0 0]]
theorem laid_met(os:Os):laidMet Tryz.prog Rows.copyAlikesRow.laid ((laidWorld os).forCall (fun _ _=>0) ⟨#[],wArgs,[]⟩).memory:=
 laidMet_of_run' 10 (by kernel_rfl) (by kernel_rfl)
theorem reads(os:Os){H:Type}(enc:TypeId×Value→H):∃places,DataW.whole enc Tryz.prog ((laidWorld os).forCall (fun _ _=>0) ⟨#[],wArgs,[]⟩).memory Tryz.f4.params.toList Rows.copyAlikesSpec.vars false wArgs.toList 8=some ([.agg [.nil,.lit (.int .i64 0),.lit (.string []),.nil,.nil,.nil,.nil,.nil],.agg [.nil,.lit (.int .i64 0),.lit (.string []),.nil,.nil,.nil,.nil,.nil]],[],places):=
 ⟨[],by kernel_rfl⟩
theorem lifted(os:Os)(started:os.Started)(H:Type)(enc:TypeId×Value→H)(F:Stop.Interp):
  ReturnsInHanded {} Tryz.checked os 4 .any ((OpenSpec.ofChange Rows.copyAlikesSpec).preRow enc Tryz.prog Tryz.f4 Rows.copyAlikesRow.domain false Rows.copyAlikesRow.laid) (((OpenSpec.ofChange Rows.copyAlikesSpec).at F).post enc Tryz.prog Tryz.f4 false true false false):=by
 obtain ⟨places,hx⟩:=reads os enc;refine returnsInHanded_of_row (C:=Tryz.checked) (s:=OpenSpec.ofChange Rows.copyAlikesSpec) own started (by kernel_rfl) Tryz.func4
  (witness_row_atRef (enc:=enc) (C:=Tryz.checked) false (laidWorld os) wArgs rfl (by kernel_rfl) (by kernel_rfl) (by kernel_rfl)
   (OpenSpec.preRow_of_cond 8 hx (by kernel_rfl) (fun k hk=>by cases hk) (by kernel_rfl) (laid_met os))) ?_
 intro W base args ds gs before hval hW _ _ hwt hL _ _;exact contract H enc W base args ds gs before hval hW hwt hL
theorem andT{a b:Bool}(ha:a=true)(hb:b=true):(a && b)=true:=by rw[ha,hb];rfl
theorem fact1:Rows.copyAlikesRow.wf (OpenSpec.ofChange (OpenSpec.ofChange Rows.copyAlikesSpec).bare)=true:=by kernel_rfl
theorem fact2:laidOutB Tryz.prog=true:=by kernel_rfl
theorem fact3:mapsRowed Tryz.prog=true:=by kernel_rfl
theorem fact4:Tryz.f4.params.all (Tryz.prog.readableRec ·)=true:=by kernel_rfl
theorem fact5:namedTie Tryz.prog Rows.copyAlikesRow.named (OpenSpec.ofChange Rows.copyAlikesSpec).bare.vars=true:=by kernel_rfl
theorem fact6:(Rows.copyAlikesRow.stops==[])=true:=by kernel_rfl
theorem fact7:(Tryz.prog.stops==[])=true:=by kernel_rfl
theorem fact8:(Rows.copyAlikesRow.knobs==[])=true:=by kernel_rfl
theorem fact9:(Tryz.prog.stopKnobs==[])=true:=by kernel_rfl
theorem fact10:(Rows.copyAlikesRow.inPlace==Tryz.prog.inPlace 4)=true:=by kernel_rfl
theorem fact11:(Rows.copyAlikesRow.unfollowed==Tryz.prog.unfollowed 4)=true:=by kernel_rfl
theorem fact12:(Rows.copyAlikesRow.recurses==Tryz.prog.recurses 4)=true:=by kernel_rfl
theorem fact13:(Rows.copyAlikesRow.named==Tryz.prog.varsNamed 4)=true:=by kernel_rfl
theorem fact14:(Rows.copyAlikesRow.maps==(Tryz.f4.params.toList++(OpenSpec.ofChange Rows.copyAlikesSpec).bare.plain.varTypes Tryz.prog).any (Tryz.prog.mapsRec ·))=true:=by kernel_rfl
theorem fact15:(Rows.copyAlikesRow.ifaces==(Tryz.f4.params.toList++(OpenSpec.ofChange Rows.copyAlikesSpec).bare.plain.varTypes Tryz.prog).any (Tryz.prog.ifacesRec ·))=true:=by kernel_rfl
theorem fact16:(Rows.copyAlikesRow.mapsOut==Tryz.prog.mapsAmong Tryz.f4.resultTypes.toList)=true:=by kernel_rfl
theorem fact17:(Rows.copyAlikesRow.loops==(Tryz.f4.params.toList++(OpenSpec.ofChange Rows.copyAlikesSpec).bare.plain.varTypes Tryz.prog).any (Tryz.prog.loopsFrom ·))=true:=by kernel_rfl
theorem fact18:(Rows.copyAlikesRow.wideKeys==((Tryz.f4.params.toList++(OpenSpec.ofChange Rows.copyAlikesSpec).bare.plain.varTypes Tryz.prog)++Tryz.f4.resultTypes.toList).any (Tryz.prog.wideKeysFrom ·))=true:=by kernel_rfl
theorem fact19:(OpenSpec.ofChange Rows.copyAlikesSpec).bare.vars.all (Tryz.prog.varReadable ·)=true:=by kernel_rfl
theorem fact20:Tryz.f4.resultTypes.all (fun t=>Tryz.prog.readableRec t && decide (t<Tryz.prog.types.size))=true:=by kernel_rfl
theorem fact21:(Rows.copyAlikesRow.ifacesOut==Tryz.f4.resultTypes.toList.any (Tryz.prog.ifacesRec ·))=true:=by kernel_rfl
theorem fact22:(Rows.copyAlikesRow.loopsOut==Tryz.f4.resultTypes.toList.any (Tryz.prog.loopsFrom ·))=true:=by kernel_rfl
theorem fact23:(Rows.copyAlikesRow.plainKeys==Tryz.prog.plainKeys)=true:=by kernel_rfl
theorem fact24:Rows.copyAlikesRow.shortTexts.isNone=true:=by kernel_rfl
theorem fact25:Tryz.prog.stopsHeard=true:=by kernel_rfl
theorem fact26:Tryz.prog.mayEnter=true:=by kernel_rfl
theorem fact27:(Rows.copyAlikesRow.lifted==Tryz.prog.liftsFinal)=true:=by kernel_rfl
theorem fact28:(Tryz.prog.make==some Rows.copyAlikesRow.make)=true:=by kernel_rfl
theorem fact29:(Rows.copyAlikesRow.kinds==(if Rows.copyAlikesRow.domain.isEmpty then [] else Tryz.f4.params.toList.map fun t=>match Tryz.prog.underlying t with|some (.int k)=>some k|_=>none))=true:=by kernel_rfl
theorem fact30:(Rows.copyAlikesRow.pinned==Rows.copyAlikesRow.pinnedBy)=true:=by kernel_rfl
theorem fact31:(Rows.copyAlikesRow.veiled==((Tryz.f4.params.toList++(OpenSpec.ofChange Rows.copyAlikesSpec).bare.plain.varTypes Tryz.prog)++Tryz.f4.resultTypes.toList).any (Tryz.prog.veiledRec ·))=true:=by kernel_rfl
theorem fact32:Rows.copyAlikesRow.veiledFits Tryz.prog Tryz.f4.params.toList ((Tryz.f4.params.toList++(OpenSpec.ofChange Rows.copyAlikesSpec).bare.plain.varTypes Tryz.prog)++Tryz.f4.resultTypes.toList)=true:=by kernel_rfl
theorem facts:joinedFacts Tryz.pinned.checked.prog 4 Tryz.f4 (OpenSpec.ofChange Rows.copyAlikesSpec).bare Rows.copyAlikesRow=true:=(andT (andT (andT (andT (andT (andT (andT (andT (andT (andT (andT (andT (andT (andT (andT (andT (andT (andT (andT (andT (andT (andT (andT (andT (andT (andT (andT (andT (andT (andT (andT fact1 fact2) fact3) fact4) fact5) fact6) fact7) fact8) fact9) fact10) fact11) fact12) fact13) fact14) fact15) fact16) fact17) fact18) fact19) fact20) fact21) fact22) fact23) fact24) fact25) fact26) fact27) fact28) fact29) fact30) fact31) fact32)
theorem name4:Tryz.pinned.checked.prog.funcNamed Rows.copyAlikesRow.func=some 4:=by kernel_rfl
theorem inst4:Tryz.f4.isInstance Tryz.pinned.checked.prog Rows.copyAlikesRow.origin Rows.copyAlikesRow.targs:=of_decide_eq_true (by kernel_rfl)
theorem wrap4:Tryz.f4.isWrapper Tryz.pinned.checked.prog Rows.copyAlikesRow.wrapper Rows.copyAlikesRow.mainSum:=by unfold Func.isWrapper;first|(rw[if_pos (by decide+kernel)];kernel_rfl)|(rw[if_neg (by decide+kernel)];exact ⟨rfl,rfl⟩)
theorem said:Rows.CopyAlikesSaid:=
 OpenClaim.holds_of_cond 4 Tryz.f4 rfl rfl rfl rfl rfl rfl rfl ⟨rfl,rfl,rfl,rfl,rfl⟩ rfl rfl rfl rfl rfl name4 Tryz.func4 facts inst4 wrap4
  (fun os started H enc _ F=>by rw[OpenClaim.pre_eq_preRow];exact lifted os started H enc F)
theorem looksT:false=Tryz.pinned.checked.prog.looks []:=by kernel_rfl
theorem stand28:Tryz.prog.wantsStandIn 28=false:=by kernel_rfl
theorem named4 : Tryz.prog.funcNamed "manorboy/manorboylaw09.CopyAlikes" = some 4 := by kernel_rfl
theorem plain (f : FuncId) (fn : Func) (hf : Tryz.pinned.checked.prog.funcNamed "manorboy/manorboylaw09.CopyAlikes" = some f) (hfn : Tryz.pinned.checked.prog.funcs[f]? = some fn) :
  false=Tryz.pinned.checked.prog.looks []∧∀(j:Nat) t,fn.params[j]?=some t→Tryz.pinned.checked.prog.wantsStandIn t=false:=by
 obtain rfl:f=4:=Option.some.inj (named4.symm.trans hf) |>.symm;obtain rfl:fn=Tryz.f4:=(Option.some.inj (Tryz.func4.symm.trans hfn)).symm;refine ⟨looksT,fun j t ht=>?_⟩;rw[Tryz.params4] at ht;have:t=28:=by simpa using Array.mem_of_getElem? ht
 subst this;exact stand28
theorem wfText:Rows.copyAlikesRow.wfByText (OpenSpec.ofChange Rows.copyAlikesSpec)=true:=by kernel_rfl
theorem mainT:Tryz.pinned.checked.prog.mainIs=some (Rows.copyAlikesCard.stood.harness.1,Rows.copyAlikesCard.stood.harness.2.toList):=by kernel_rfl
theorem goesT:false=Rows.copyAlikesRow.goesBy Tryz.pinned.checked.prog:=by kernel_rfl
theorem card:Rows.CopyAlikesCardSaid:=
 Claim7.holds_tied_plain_at .later [] _ _ _ _ said (fun _ h=>by cases h) wfText (fun _ h=>by cases h) copyAlikes_row_tie rfl ⟨rfl,rfl⟩ mainT rfl plain goesT
end Go.Proofs.YtbifpocccfkhhaaGreatDoor.copyAlikes
namespace Go.Proofs.YtbifpocccfkhhaaGreatDoor
theorem copyAlikes_holds:Rows.CopyAlikesCardSaid:=copyAlikes.card
end Go.Proofs.YtbifpocccfkhhaaGreatDoor
