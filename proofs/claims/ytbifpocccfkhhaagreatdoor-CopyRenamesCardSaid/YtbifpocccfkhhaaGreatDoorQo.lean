/- A part. -/
import Derived.Test.YtbifpocccfkhhaaGreatDoorQn
set_option linter.all false
noncomputable section
namespace Go.Proofs.YtbifpocccfkhhaaGreatDoor
open Go Go.Proofs.Tryz
theorem El.rsl_len(r:Rp)(sc:Scs):∀(l:List El) (st:Rst),(El.rsl r sc st l).free.length≤st.free.length+qaB (l.map Pa.el)
 | [],st=>by simp[El.rsl]
 | x::l,st=>by
  have h1:=Ex.rsl_len r sc x.exps st;have h2:=El.rsl_len r sc l (Ex.rsl r sc st x.exps);have h3:(Pa.el x).size=1+qaB (x.exps.map Pa.ex):=by rw[Pa.size_eq];rfl
  have h4:El.rsl r sc st (x::l)=El.rsl r sc (Ex.rsl r sc st x.exps) l:=rfl;rw[h4,qud,sizes_cons];omega
theorem qlF(r:Rp)(sc:Scs)(st:Rst)(l:List Ex):(tgS r sc st l).free.length≤st.free.length+qaB (l.map Pa.ex):=Ex.rsl_len r sc l st
mutual
theorem Sm.rs_len(r:Rp):∀(s:Sm) (sc:Scs) (n:Nat) (st:Rst),(s.rs r sc n st).free.length≤st.free.length+(Pa.st s).size
 | .mk l k t g e h d b,sc,n,st=>by
  have hsz:=Sm.size_parts (.mk l k t g e h d b);simp only[Sm.labels,Sm.targets,Sm.exps,Sm.elems,Sm.decls,Sm.body] at hsz;rw[Sm.rs];split
  ·have h1:=De.rsl_len r d (qad (qag d b) n::sc) sc (n+(qad (qag d b) n).length) st;have h2:=Sm.rsl_len r b (qad (qag d b) n::sc) (n+(qad (qag d b) n).length+De.nbl d) (De.rsl r (qad (qag d b) n::sc) sc (n+(qad (qag d b) n).length) st d);omega
  ·split
   ·have h2:=Sm.rsl_len r b (qad (qak b) n::sc) (n+(qad (qak b) n).length) st;omega
   ·have h0:(if k=6 then qbl r sc t st else st).free.length≤st.free.length+1:=by
     split
     ·exact qcS r sc t st
     ·omega
    have h1:=qlF r sc (if k=6 then qbl r sc t st else st) g;have h2:=El.rsl_len r sc h (tgS r sc (if k=6 then qbl r sc t st else st) g);have h3:=Ex.rsl_len r sc e (El.rsl r sc (tgS r sc (if k=6 then qbl r sc t st else st) g) h);have h4:=Sm.rs1_len r b sc n (Ex.rsl r sc (El.rsl r sc (tgS r sc (if k=6 then qbl r sc t st else st) g) h) e);omega
theorem De.rs_len(r:Rp):∀(s:De) (own sc:Scs) (n:Nat) (st:Rst),(s.rs r own sc n st).free.length≤st.free.length+(Pa.de s).size
 | .mk k o t nm e fo b,own,sc,n,st=>by
  have hsz:=De.size_parts (.mk k o t nm e fo b);simp only[De.names,De.formals,De.exps,De.body] at hsz;rw[De.rs];split
  ·have h1:=Ex.rsl_len r own e st;have h2:=Sm.rs1_len r b (qad (fo.map Fo.name) n::own) (n+(qad (fo.map Fo.name) n).length) (Ex.rsl r own st e);omega
  ·have h1:=Ex.rsl_len r (if k=2 then sc else own) e st;omega
theorem De.rsl_len(r:Rp):∀(l:List De) (own sc:Scs) (n:Nat) (st:Rst),(De.rsl r own sc n st l).free.length≤st.free.length+qaB (l.map Pa.de)
 | [],own,sc,n,st=>by simp[De.rsl]
 | x::l,own,sc,n,st=>by
  have h1:=De.rs_len r x own sc n st;have h2:=De.rsl_len r l own sc (n+De.nb x) (x.rs r own sc n st);simp only[De.rsl,qud,sizes_cons];omega
theorem Sm.rsl_len(r:Rp):∀(l:List Sm) (sc:Scs) (n:Nat) (st:Rst),(Sm.rsl r sc n st l).free.length≤st.free.length+qaB (l.map Pa.st)
 | [],sc,n,st=>by simp[Sm.rsl]
 | x::l,sc,n,st=>by
  have h1:=Sm.rs_len r x sc n st;have h2:=Sm.rsl_len r l sc (n+Sm.nb x) (x.rs r sc n st);simp only[Sm.rsl,qud,sizes_cons];omega
theorem Sm.rs1_len(r:Rp):∀(l:List Sm) (sc:Scs) (n:Nat) (st:Rst),(Sm.rs1 r sc n st l).free.length≤st.free.length+qaB (l.map Pa.st)
 | [],sc,n,st=>by simp[Sm.rs1]
 | x::l,sc,n,st=>by
  have h1:=Sm.rs_len r x (qad x.labels n::sc) (n+(qad x.labels n).length) st;have h2:=Sm.rs1_len r l sc (n+(qad x.labels n).length+Sm.nb x) (x.rs r (qad x.labels n::sc) (n+(qad x.labels n).length) st);simp only[Sm.rs1,qud,sizes_cons];omega
end
theorem qfs(l:List ByteArray)(n:Nat):(nms l).length=(qad l n).length:=by rw[qbX];exact qa3 l 0 n
theorem qmJ(s:Sco)(sc:Scs):(Scs.flat (s::sc)).length=(Scs.flat sc).length+s.length:=by simp[Scs.flat]
theorem Rk.real{r:Rp}{bf bt:Bool}{w:Nat}{fv:V}{bound:List ByteArray}{st:Rst}{F D:Nat→Prop}{S:St}(h:Rk r bf bt w fv bound st F D S)(bound':List ByteArray)(st':Rst):∃F' D' U,Rk r bf bt w fv bound' st' F' D' U∧Stp w F D S F' D' U:=by
 have hlw:=h.lw;obtain ⟨U,hU⟩:∃U:St,U=(S++[Ob.arr (bound'.map V.str) 1 0,Ob.arr (st'.free.map V.str) 1 0]).set w (wkO r bf bt fv (.arr S.length 0 bound'.length bound'.length) (.arr (S.length+1) 0 st'.free.length st'.free.length) st'):=⟨_,rfl⟩;have u0:U[S.length]?=some (.arr (bound'.map .str) 1 0):=by rw[hU,qtY (by omega),qtW (by omega)];simp
 have u1:U[S.length+1]?=some (.arr (st'.free.map .str) 1 0):=by rw[hU,qtY (by omega),qtW (by omega)];simp
 have uw:U[w]?=some (wkO r bf bt fv (.arr S.length 0 bound'.length bound'.length) (.arr (S.length+1) 0 st'.free.length st'.free.length) st'):=by rw[hU,qtZ (by simp;omega)]
 have uo:∀l o,l≠w→S[l]?=some o→U[l]?=some o:=fun l o hl ho=>by rw[hU,qtY (Ne.symm hl)];exact gpp ho
 have lU:U.length=S.length+2:=by rw[hU];simp
 refine ⟨fun l=>F l∨l=S.length∨l=S.length+1,D,U,⟨⟨_,_,uw,.inr ⟨S.length,0,.inr (.inl rfl),by omega,rfl,u0,by omega⟩,.inr ⟨S.length+1,0,.inr (.inr rfl),by omega,rfl,u1,by omega⟩,?_⟩,h.fr.keep fun l o hl ho=>uo l o (fun hh=>h.nD (hh ▸ hl)) ho,?_,?_,h.nD,?_,by omega⟩,⟨?_,?_⟩,?_,grow.refl _ _⟩
 ·intro l a b c hb a' b' c' hf;simp only[V.arr.injEq] at hb hf;omega
 ·rintro l ((hl|rfl|rfl)|hl)
  ·have:=h.lt l (.inl hl);omega
  ·omega
  ·omega
  ·have:=h.lt l (.inr hl);omega
 ·rintro (hf|hf|hf)
  ·exact h.nF hf
  ·omega
  ·omega
 ·rintro l (hl|rfl|rfl) hd
  ·exact h.di l hl hd
  ·have:=h.lt _ (.inr hd);omega
  ·have:=h.lt _ (.inr hd);omega
 ·omega
 ·intro l hl hn;rw[hU,qtY (fun hh=>hn (.inl hh.symm)),qt0 hl]
 ·rintro l (hl|hl|hl)
  ·exact .inl hl
  ·exact .inr (by omega)
  ·exact .inr (by omega)
structure Okw(bound:List ByteArray)(st:Rst)(sc:Scs)(nb size:Nat):Prop where
 nd:ScD sc
 fl:(Scs.flat sc).length≤bound.length
 bo:bound.length+nb≤50000
 fr:st.free.length+size≤1000000
def P194(r:Rp)(bf bt:Bool)(w:Nat)(fv:V)(s:Sm):Prop:=∀(bound:List ByteArray) (st:Rst) (F D:Nat→Prop) (S:St) (b:Bool) (sc:Scs),Rk r bf bt w fv bound st F D S→Okw bound st sc s.nb (Pa.st s).size→
 Spec prog 194 [.ptr w 0 0 1,s.v,.sl b ((Scs.flat sc).map bndV)] S (fun v U=>Rd' w (Rk r bf bt w fv (bound++s.bn) (s.rs r sc bound.length st)) F D S (s.rw r sc bound.length).v v U)
theorem qoq(l:List Sm)(i:Nat)(h:i<l.length):Sm.nbl (l.take (i+1))=Sm.nbl (l.take i)+l[i].nb∧Sm.nbl (l.take (i+1))≤Sm.nbl l:=by
 have ht:l.take (i+1)=l.take i++[l[i]]:=by rw[qt9,qtX h];rfl
 refine ⟨by rw[ht,Sm.nbl_append];simp[Sm.nbl],?_⟩;have:Sm.nbl l=Sm.nbl (l.take (i+1))+Sm.nbl (l.drop (i+1)):=by rw[←Sm.nbl_append,quF]
 omega
theorem qol(l:List Sm)(i:Nat)(h:i<l.length):Sm.nb1 (l.take (i+1))=Sm.nb1 (l.take i)+((qad l[i].labels 0).length+l[i].nb)∧Sm.nb1 (l.take (i+1))≤Sm.nb1 l:=by
 have ht:l.take (i+1)=l.take i++[l[i]]:=by rw[qt9,qtX h];rfl
 refine ⟨by rw[ht,Sm.nb1_append];simp[Sm.nb1],?_⟩;have:Sm.nb1 l=Sm.nb1 (l.take (i+1))+Sm.nb1 (l.drop (i+1)):=by rw[←Sm.nb1_append,quF]
 omega
theorem qgh(r:Rp)(bf bt:Bool)(w:Nat)(fv:V)(l:List Sm)(H:∀s,s∈l→P194 r bf bt w fv s)(hl:l.length≤4000)(bound:List ByteArray)(st:Rst)(F D:Nat→Prop)(S:St)(bl b:Bool)(sc:Scs)(hk:Rk r bf bt w fv bound st F D S)(ok:Okw bound st sc (Sm.nbl l) (qaB (l.map Pa.st))):
  Spec prog 161 [.ptr w 0 0 1,.sl bl (l.map Sm.v),.sl b ((Scs.flat sc).map bndV)] S (fun v U=>Rd' w (Rk r bf bt w fv (bound++Sm.bnl l) (Sm.rsl r sc bound.length st l)) F D S (.sl false ((Sm.rwl r sc bound.length l).map Sm.v)) v U):=by
 refine Spec.ib func161 ok161 ?_;simp[c161];refine qaz (WwF w 8 F D S (Rk r bf bt w fv (bound++Sm.bnl l) (Sm.rsl r sc bound.length st l)) 7 ((Sm.rwl r sc bound.length l).map Sm.v)) ?_ ?_
 ·refine qar (LwF w 8 F D S l.length (fun i=>Rk r bf bt w fv (bound++Sm.bnl (l.take i)) (Sm.rsl r sc bound.length st (l.take i))) (fun i=>(Sm.rwl r sc bound.length (l.take i)).map Sm.v)
   (fun i gv=>[(8,.int .i64 i),(7,gv),(0,.ptr w 0 0 1),(1,.sl bl (l.map Sm.v)),(2,.sl b ((Scs.flat sc).map bndV))])) l.length _ ?_ ⟨0,_,F,D,by simp,by omega,Gw.nil _ _ _ _ _ _,by simpa[Sm.bnl,Sm.rsl] using hk,Stp.refl _ _ _ _,rfl⟩ ?_
  ·exact Env.so (by simp)
  rintro j e U ⟨i,gv,F1,D1,rfl,hi,hg,hk1,hs1,rfl⟩;dsimp only at hg hk1;by_cases hlt:i<l.length
  ·have hst:=qcm Pa.st l i hlt;have hrl:=Sm.rsl_len r (l.take i) sc bound.length st;obtain ⟨n1,n2⟩:=qoq l i hlt;have hbl:(bound++Sm.bnl (l.take i)).length=bound.length+Sm.nbl (l.take i):=by rw[qub,Sm.bnl_length]
   have ht:l.take (i+1)=l.take i++[l[i]]:=by rw[qt9,qtX hlt];rfl
   have q:=H l[i] (qt7 hlt) _ _ F1 D1 U b sc hk1 ⟨ok.nd,by have:=ok.fl;omega,by have:=ok.bo;omega,by have:=ok.fr;omega⟩;rw[hbl] at q;simp[hlt,iaSm];refine qan q ?_;rintro v U2 ⟨rfl,F2,D2,hk2,hs2⟩;have hg2:=hg.step hs2;have hs3:=hs1.trans hs2;obtain ⟨v',U3,ha,hg3,hk3,hs4,_⟩:=hg2.app1F (Rk.frm r bf bt w fv _ _) (bytes:=168) (b:=true) hk2 hs3 (Sm.fits1 (l[i].rw r sc (bound.length+Sm.nbl (l.take i)))) (by rw[qt2,qmr,quW];omega)
   have hn1:(Sm.rwl r sc bound.length (l.take i)).map Sm.v++[(l[i].rw r sc (bound.length+Sm.nbl (l.take i))).v]=(Sm.rwl r sc bound.length (l.take (i+1))).map Sm.v:=by
    rw[ht,Sm.rwl_append,quh];rfl
   have hn2:Sm.rs r sc (bound.length+Sm.nbl (l.take i)) (Sm.rsl r sc bound.length st (l.take i)) l[i]=Sm.rsl r sc bound.length st (l.take (i+1)):=by
    rw[ht,Sm.rsl_append];rfl
   have hn3:bound++Sm.bnl (l.take i)++l[i].bn=bound++Sm.bnl (l.take (i+1)):=by
    rw[ht,Sm.bnl_append,qt5];simp[Sm.bnl]
   rw[hn1] at hg3;rw[hn2,hn3] at hk3;simp[Sm.fits1,ha,qaL (n:=(i:Int)+1)];refine ⟨_,?_,_,?_,i+1,v',F2,D2,rfl,by omega,hg3,hk3,hs4,rfl⟩
   ·omega
   ·exact Env.so (by simp)
  ·have:i=l.length:=by omega
   subst this;simp only[qun] at hg hk1;simp;exact ⟨gv,F1,D1,rfl,hg,hk1,hs1⟩
 rintro e U ⟨gv,F1,D1,g9,hg,hk1,hs1⟩;simp[g9];exact qd2 (Rk.frm _ _ _ _ _ _ _) rfl hg hk1 hs1 (by rw[←qaI,wSm])
theorem Okw.enter{bound:List ByteArray}{st:Rst}{sc:Scs}{nb size m:Nat}(ok:Okw bound st sc nb size)(l:List ByteArray)(h:(qad l 0).length+m≤nb):Okw (bound++nms l) st (qad l bound.length::sc) m size:=by
 have h1:=qfs l 0;have h2:=qfs l bound.length;refine ⟨ok.nd.bind l _,?_,?_,ok.fr⟩
 ·rw[qmJ,qub];have:=ok.fl;omega
 ·rw[qub];have:=ok.bo;omega
theorem qc6:∀l:List Sm,(qak l).length≤qaB (l.map Pa.st)
 | []=>by simp[qak]
 | x::m=>by
  have ih:=qc6 m;have:=Sm.size_parts x;simp only[qak,quT,qub,qud,sizes_cons] at ih ⊢;omega
theorem qeA(r:Rp)(bf bt:Bool)(w:Nat)(fv:V)(l:List Sm)(H:∀s,s∈l→P194 r bf bt w fv s)(hl:qaB (l.map Pa.st)≤4000)(bound:List ByteArray)(st:Rst)(F D:Nat→Prop)(S:St)(bl b:Bool)(sc:Scs)(hk:Rk r bf bt w fv bound st F D S)(ok:Okw bound st sc ((qad (qak l) 0).length+Sm.nbl l) (qaB (l.map Pa.st))):
  Spec prog 117 [.ptr w 0 0 1,.sl bl (l.map Sm.v),.sl b ((Scs.flat sc).map bndV)] S (fun v U=>Rd' w (Rk r bf bt w fv (bound++(nms (qak l)++Sm.bnl l)) (Sm.rsl r (qad (qak l) bound.length::sc) (bound.length+(qad (qak l) bound.length).length) st l)) F D S (.sl false ((Sm.rwl r (qad (qak l) bound.length::sc) (bound.length+(qad (qak l) bound.length).length) l).map Sm.v)) v U):=by
 refine Spec.ib func117 ok117 ?_;have hlen:l.length≤4000:=by have:=qaP (l.map Pa.st);rw[qt2] at this;omega
 have hlab:=qc6 l;have hbl:(bound++nms (qak l)).length=bound.length+(qad (qak l) bound.length).length:=by rw[qub,qfs _ bound.length]
 simp[c117];refine qan (ql7 l hl bl w _ (Rk.frm r bf bt w fv bound st) F D S hk) ?_;rintro v U ⟨rfl,F1,D1,k1,s1⟩;simp;have hflo:=ok.fl;have hbo:=ok.bo;refine qan (qiu r bf bt w fv bound st F1 D1 U k1 b sc (qak l) _ (.inl ⟨false,rfl⟩) (by omega) (by omega)) ?_;rintro v U2 ⟨rfl,F2,D2,k2,s2⟩;simp;have q:=qgh r bf bt w fv l H hlen _ st F2 D2 U2 bl false (qad (qak l) bound.length::sc) k2 (ok.enter (qak l) (qt1 _));rw[hbl,qt5] at q;refine qan q ?_;rintro v U3 ⟨rfl,F3,D3,k3,s3⟩;simp;exact qaj rfl ⟨rfl,F3,D3,k3,(s1.trans s2).trans s3⟩
theorem qf4(r:Rp)(bf bt:Bool)(w:Nat)(fv:V)(l:List Sm)(H:∀s,s∈l→P194 r bf bt w fv s)(hl:qaB (l.map Pa.st)≤4000)(bound:List ByteArray)(st:Rst)(F D:Nat→Prop)(S:St)(bl b:Bool)(sc:Scs)(hk:Rk r bf bt w fv bound st F D S)(ok:Okw bound st sc (Sm.nb1 l) (qaB (l.map Pa.st))):
  Spec prog 232 [.ptr w 0 0 1,.sl bl (l.map Sm.v),.sl b ((Scs.flat sc).map bndV)] S (fun v U=>Rd' w (Rk r bf bt w fv (bound++Sm.bn1 l) (Sm.rs1 r sc bound.length st l)) F D S (.sl false ((Sm.rw1 r sc bound.length l).map Sm.v)) v U):=by
 refine Spec.ib func232 ok232 ?_;have hlen:l.length≤4000:=by have:=qaP (l.map Pa.st);rw[qt2] at this;omega
 simp[c232];refine qaz (WwF w 8 F D S (Rk r bf bt w fv (bound++Sm.bn1 l) (Sm.rs1 r sc bound.length st l)) 7 ((Sm.rw1 r sc bound.length l).map Sm.v)) ?_ ?_
 ·refine qar (LwF w 8 F D S l.length (fun i=>Rk r bf bt w fv (bound++Sm.bn1 (l.take i)) (Sm.rs1 r sc bound.length st (l.take i))) (fun i=>(Sm.rw1 r sc bound.length (l.take i)).map Sm.v)
   (fun i gv=>[(8,.int .i64 i),(7,gv),(0,.ptr w 0 0 1),(1,.sl bl (l.map Sm.v)),(2,.sl b ((Scs.flat sc).map bndV))])) l.length _ ?_ ⟨0,_,F,D,by simp,by omega,Gw.nil _ _ _ _ _ _,by simpa[Sm.bn1,Sm.rs1] using hk,Stp.refl _ _ _ _,rfl⟩ ?_
  ·exact Env.so (by simp)
  rintro j e U ⟨i,gv,F1,D1,rfl,hi,hg,hk1,hs1,rfl⟩;dsimp only at hg hk1;by_cases hlt:i<l.length
  ·have hst:=qcm Pa.st l i hlt;have hrl:=Sm.rs1_len r (l.take i) sc bound.length st;obtain ⟨n1,n2⟩:=qol l i hlt;have hbl:(bound++Sm.bn1 (l.take i)).length=bound.length+Sm.nb1 (l.take i):=by rw[qub,Sm.bn1_length]
   have ht:l.take (i+1)=l.take i++[l[i]]:=by rw[qt9,qtX hlt];rfl
   have hlab:qak [l[i]]=l[i].labels:=by simp[qak]
   have q:=qeA r bf bt w fv [l[i]] (fun s hs=>by simp at hs;subst hs;exact H _ (qt7 hlt)) (by simp;omega) _ _ F1 D1 U true b sc hk1 ⟨ok.nd,by have:=ok.fl;omega,by have:=ok.bo;rw[hlab];simp only[Sm.nbl];omega,by have:=ok.fr;simp;omega⟩;rw[hbl,hlab] at q;simp only[qud,qvB,Sm.bnl,Sm.rsl,Sm.rwl,qu4] at q;simp[hlt,iaSm,Sm.fits1];refine qan q ?_;rintro v U2 ⟨rfl,F2,D2,hk2,hs2⟩;have hg2:=hg.step hs2;have hs3:=hs1.trans hs2;obtain ⟨v',U3,ha,hg3,hk3,hs4,_⟩:=hg2.app1F (Rk.frm r bf bt w fv _ _) (bytes:=168) (b:=false) hk2 hs3 (Sm.fits1 (l[i].rw r (qad l[i].labels (bound.length+Sm.nb1 (l.take i))::sc) (bound.length+Sm.nb1 (l.take i)+(qad l[i].labels (bound.length+Sm.nb1 (l.take i))).length))) (by rw[qt2,qlD,quW];omega)
   have hn1:(Sm.rw1 r sc bound.length (l.take i)).map Sm.v++[(l[i].rw r (qad l[i].labels (bound.length+Sm.nb1 (l.take i))::sc) (bound.length+Sm.nb1 (l.take i)+(qad l[i].labels (bound.length+Sm.nb1 (l.take i))).length)).v]=(Sm.rw1 r sc bound.length (l.take (i+1))).map Sm.v:=by
    rw[ht,Sm.rw1_append,quh];rfl
   have hn2:Sm.rs r (qad l[i].labels (bound.length+Sm.nb1 (l.take i))::sc) (bound.length+Sm.nb1 (l.take i)+(qad l[i].labels (bound.length+Sm.nb1 (l.take i))).length) (Sm.rs1 r sc bound.length st (l.take i)) l[i]=Sm.rs1 r sc bound.length st (l.take (i+1)):=by
    rw[ht,Sm.rs1_append];rfl
   have hn3:bound++Sm.bn1 (l.take i)++(nms l[i].labels++l[i].bn)=bound++Sm.bn1 (l.take (i+1)):=by
    rw[ht,Sm.bn1_append,qt5];simp[Sm.bn1]
   rw[hn1] at hg3;rw[hn2,hn3] at hk3;simp[ha,qaL (n:=(i:Int)+1)];refine ⟨_,?_,_,?_,i+1,v',F2,D2,rfl,by omega,hg3,hk3,hs4,rfl⟩
   ·omega
   ·exact Env.so (by simp)
  ·have:i=l.length:=by omega
   subst this;simp only[qun] at hg hk1;simp;exact ⟨gv,F1,D1,rfl,hg,hk1,hs1⟩
 rintro e U ⟨gv,F1,D1,g9,hg,hk1,hs1⟩;simp[g9];exact qd2 (Rk.frm _ _ _ _ _ _ _) rfl hg hk1 hs1 (by rw[←qaI,wSm])
def Gx(sz n0 w:Nat)(F D:Nat→Prop)(xs:List V)(v:V)(S:St):Prop:=(∃b,v=.sl b xs)∨Gw sz n0 w F D xs v S
theorem Gw.flatV{sz n0 w:Nat}{F D:Nat→Prop}{xs:List V}{v:V}{S:St}(h:Gw sz n0 w F D xs v S):v.cells=[v]∧v.flat=true∧v.size=1:=by
 rcases h with ⟨rfl,rfl⟩|⟨l,wr,h1,h2,rfl,h4,h5⟩ <;> exact ⟨rfl,rfl,rfl⟩
theorem Gx.flatV{sz n0 w:Nat}{F D:Nat→Prop}{xs:List V}{v:V}{S:St}(h:Gx sz n0 w F D xs v S):v.cells=[v]∧v.flat=true∧v.size=1:=by
 rcases h with ⟨b,rfl⟩| h
 ·exact ⟨rfl,rfl,rfl⟩
 ·exact h.flatV
theorem Gw.ne{sz sz' n0 n0' w w':Nat}{F D F' D':Nat→Prop}{xs xs':List V}{v v':V}{S:St}(h:Gw sz n0 w F D xs v S)(h':Gw sz' n0' w' F' D' xs' v' S)(hs:sz≠sz'):∀l a b c a' b' c',v=.arr l a b c→v'≠.arr l a' b' c':=by
 rintro l a b c a' b' c' rfl rfl;rcases h with ⟨_,h⟩|⟨l',wr,h1,h2,h3,h4,h5⟩
 ·cases h
 ·cases h3;rcases h' with ⟨_,h⟩|⟨l',wr',g1,g2,g3,g4,g5⟩
  ·cases h
  ·cases g3;rw[h4] at g4;cases g4;exact hs rfl
theorem Gx.ne{sz sz' n0 n0' w w':Nat}{F D F' D':Nat→Prop}{xs xs':List V}{v v':V}{S:St}(h:Gx sz n0 w F D xs v S)(h':Gx sz' n0' w' F' D' xs' v' S)(hs:sz≠sz'):∀l a b c a' b' c',v=.arr l a b c→v'≠.arr l a' b' c':=by
 intro l a b c a' b' c' hv hv';rcases h with ⟨_,h⟩| h
 ·rw[hv] at h;cases h
 ·rcases h' with ⟨_,h'⟩|h'
  ·rw[hv'] at h';cases h'
  ·exact h.ne h' hs l a b c a' b' c' hv hv'
def Nf(rf v:V):Prop:=∀l a b c,rf=.arr l a b c→∀xs wr,v.frz l xs wr=v
theorem Nf.under{rf v:V}(h:v.under 0=true):Nf rf v:=fun _ _ _ _ _ _ _=>V.frz_id v h
theorem Nf.gx{sz sz' n0 n0' w w':Nat}{F D F' D':Nat→Prop}{xs xs':List V}{v v':V}{S:St}(h:Gx sz n0 w F D xs v S)(h':Gx sz' n0' w' F' D' xs' v' S)(hs:sz≠sz')(hx:V.underL 0 xs'=true):Nf v v':=by
 intro l a b c hv ys wr;rcases h' with ⟨b',rfl⟩|h'
 ·exact V.frz_id _ (by simpa[V.under] using hx)
 ·rcases h' with ⟨_,rfl⟩|⟨l',wr',g1,g2,rfl,g4,g5⟩
  ·rfl
  ·have:=h.ne (sz':=sz') (n0':=n0') (w':=w') (F':=F') (D':=D') (xs':=xs') (v':=.arr l' 0 xs'.length xs'.length) (.inr (.inr ⟨l',wr',g1,g2,rfl,g4,g5⟩)) hs l a b c 0 xs'.length xs'.length hv;simp only[V.frz];rw[if_neg];rintro ⟨rfl,_⟩;exact this rfl
theorem Gx.other{sz n0 w:Nat}{F D:Nat→Prop}{xs:List V}{v:V}{S U:St}(h:Gx sz n0 w F D xs v S)(hk:∀l o,S[l]?=some o→(∀a b c,v=.arr l a b c→U[l]?=some o)):Gx sz n0 w F D xs v U:=h.imp id fun h=>h.other hk
theorem Gx.frz{w:Nat}{P:(Nat→Prop)→(Nat→Prop)→St→Prop}(fm:Frm w P){sz n0:Nat}{F0 D0 F D:Nat→Prop}{xs:List V}{rf:V}{S0 U:St}(h:Gx sz n0 w F D xs rf U)(k:P F D U)(s:Stp w F0 D0 S0 F D U)(hn:S0.length≤n0)(hx:V.underL 0 xs=true)(hw:V.weakL xs=xs):
  ∃rf' U',rf'.under 0=true∧rf'.weak=.sl false xs∧(∀a b,(∀v,v∈a→Nf rf v)→(∀v,v∈b→Nf rf v)→qaX S0.length (.agg (a++rf::b)) U (.agg (a++rf'::b)) U')∧P F D U'∧Stp w F0 D0 S0 F D U'∧
   ∀l o,U[l]?=some o→(∀a b c,rf≠.arr l a b c)→U'[l]?=some o:=by
 have pure:∀b,rf=.sl b xs→_:=fun b hb=>(⟨rf,U,by rw[hb];simpa[V.under] using hx,by rw[hb];simp[V.weak,hw],fun _ _ _ _=>qaX.refl _ _ _,k,s,fun l o ho _=>ho⟩:
  ∃rf' U',rf'.under 0=true∧rf'.weak=.sl false xs∧(∀a b,(∀v,v∈a→Nf rf v)→(∀v,v∈b→Nf rf v)→qaX S0.length (.agg (a++rf::b)) U (.agg (a++rf'::b)) U')∧P F D U'∧Stp w F0 D0 S0 F D U'∧
   ∀l o,U[l]?=some o→(∀a b c,rf≠.arr l a b c)→U'[l]?=some o)
 rcases h with ⟨b,rfl⟩| h
 ·exact pure b rfl
 rcases h with ⟨rfl,rfl⟩|⟨l,wr,h1,h2,rfl,h3,h4⟩
 ·exact pure true rfl
 ·refine ⟨.sl false xs,U.set l .dead,by simpa[V.under] using hx,by simp[V.weak,hw],fun a b ha hb=>?_,fm.set k _ h2,s.set _ (by omega),fun l' o ho hne=>?_⟩
  ·have g1:=qaX.freezeV (n:=S0.length) (r:=.agg (a++.arr l 0 xs.length xs.length::b)) h3
   have hz:V.frz l xs wr (.agg (a++.arr l 0 xs.length xs.length::b))=.agg (a++.sl false xs::b):=by
    have ea:a.map (V.frz l xs wr)=a:=by
     conv=>rhs;rw[←List.map_id a]
     exact qvn fun v hv=>ha v hv l _ _ _ rfl xs wr
    have eb:b.map (V.frz l xs wr)=b:=by
     conv=>rhs;rw[←List.map_id b]
     exact qvn fun v hv=>hb v hv l _ _ _ rfl xs wr
    simp only[V.frz,qcj,quh,qud];rw[ea,eb,if_pos (by simp[h4])];simp
   rw[hz] at g1;exact g1
  ·rw[qtY (by rintro rfl;exact hne _ _ _ rfl)];exact ho
theorem qtG{w:Nat}{P:(Nat→Prop)→(Nat→Prop)→St→Prop}(fm:Frm w P){n0 n1:Nat}{F0 D0 F D:Nat→Prop}{S0 U:St}{kd ty:Int}{ow:Bool}{nm:List ByteArray}{ex:List Ex}{fo:List Fo}{bo:List Sm}{nv fv:V}{c:Nat}{e:Env}{o:Nat}(hc:U[o]?=some (.arr [.agg [.int .i64 kd,.bool ow,.int .i64 ty,nv,.sl false (ex.map Ex.v),fv,.sl false (bo.map Sm.v)]] 7 1))(he:e.get c=some (.ptr o 0 0 1))
  (h1:Gx 1 n0 w F D (nm.map .str) nv U) (h2:Gx 4 n1 w F D (fo.map Fo.v) fv U) (hn:S0.length≤n0) (hn':S0.length≤n1) (k:P F D U) (s:Stp w F0 D0 S0 F D U):
  endp [.cell c (some 7)] S0.length (fun r U=>Rd' w P F0 D0 S0 (De.mk kd ow ty nm ex fo bo).v r U) .ret e U:=by
 obtain ⟨nv',U1,a1,a2,a3,a4,a5,a6⟩:=h1.frz fm k s hn (by simpa[V.under] using qer false nm) (wStr nm);have h2':Gx 4 n1 w F D (fo.map Fo.v) fv U1:=h2.other fun l o ho a b c hv=>a6 l o ho fun a' b' c' hh=>h1.ne h2 (by omega) l a' b' c' a b c hh hv
 obtain ⟨fv',U2,b1,b2,b3,b4,b5,b6⟩:=h2'.frz fm a4 a5 hn' (by simpa[V.under] using vl_under Fo.v_under false fo) (wFo fo)
 have g1:=a3 [.int .i64 kd,.bool ow,.int .i64 ty] [.sl false (ex.map Ex.v),fv,.sl false (bo.map Sm.v)] (by
  intro v hv;simp at hv
  rcases hv with rfl|rfl|rfl <;> exact Nf.under rfl) (by
  intro v hv;simp only[qum,qva,or_false] at hv;rcases hv with rfl|rfl|rfl
  ·exact Nf.under (vl_under Ex.v_under _ _)
  ·exact Nf.gx h1 h2 (by omega) (by simpa[V.under] using vl_under Fo.v_under false fo)
  ·exact Nf.under (vl_under Sm.v_under _ _))
 have g2:=b3 [.int .i64 kd,.bool ow,.int .i64 ty,nv',.sl false (ex.map Ex.v)] [.sl false (bo.map Sm.v)] (by
  intro v hv;simp only[qum,qva,or_false] at hv;rcases hv with rfl|rfl|rfl|rfl|rfl
  ·exact Nf.under rfl
  ·exact Nf.under rfl
  ·exact Nf.under rfl
  ·exact Nf.under a1
  ·exact Nf.under (vl_under Ex.v_under _ _)) (by
  intro v hv;simp only[qum,qva,or_false] at hv;subst hv;exact Nf.under (vl_under Sm.v_under _ _))
 simp only[qt8,qut] at g1 g2;refine ⟨[_],by simp only[rvs,he,ldS,hc];rfl,_,U2,(g1.trans g2).trans qaX.weak,?_,F,D,b4,b5⟩;simp only[V.weak,V.weakL,a2,b2,wEx,wSm,De.v_eq];rfl
theorem qtH{w:Nat}{P:(Nat→Prop)→(Nat→Prop)→St→Prop}(fm:Frm w P){n0 n1 n2:Nat}{F0 D0 F D:Nat→Prop}{S0 U:St}{kd:Int}{tx:ByteArray}{lb:List ByteArray}{tg ex:List Ex}{el:List El}{de:List De}{bo:List Sm}{lv ev dv:V}{c:Nat}{e:Env}{o:Nat}(hc:U[o]?=some (.arr [.agg [lv,.int .i64 kd,.str tx,.sl false (tg.map Ex.v),.sl false (ex.map Ex.v),ev,dv,.sl false (bo.map Sm.v)]] 8 1))(he:e.get c=some (.ptr o 0 0 1))
  (h1:Gx 1 n0 w F D (lb.map .str) lv U) (h2:Gx 2 n1 w F D (el.map El.v) ev U) (h3:Gx 7 n2 w F D (de.map De.v) dv U) (hn:S0.length≤n0) (hn':S0.length≤n1) (hn'':S0.length≤n2) (k:P F D U) (s:Stp w F0 D0 S0 F D U):
  endp [.cell c (some 8)] S0.length (fun r U=>Rd' w P F0 D0 S0 (Sm.mk lb kd tx tg ex el de bo).v r U) .ret e U:=by
 have ul:V.underL 0 (lb.map .str)=true:=by simpa[V.under] using qer false lb
 have ue:V.underL 0 (el.map El.v)=true:=by simpa[V.under] using vl_under El.v_under false el
 have ud:V.underL 0 (de.map De.v)=true:=by simpa[V.under] using vl_under De.v_under false de
 obtain ⟨lv',U1,a1,a2,a3,a4,a5,a6⟩:=h1.frz fm k s hn ul (wStr lb);have h2':Gx 2 n1 w F D (el.map El.v) ev U1:=h2.other fun l o ho a b c hv=>a6 l o ho fun a' b' c' hh=>h1.ne h2 (by omega) l a' b' c' a b c hh hv
 have h3':Gx 7 n2 w F D (de.map De.v) dv U1:=h3.other fun l o ho a b c hv=>a6 l o ho fun a' b' c' hh=>h1.ne h3 (by omega) l a' b' c' a b c hh hv
 obtain ⟨ev',U2,b1,b2,b3,b4,b5,b6⟩:=h2'.frz fm a4 a5 hn' ue (wEl el);have h3'':Gx 7 n2 w F D (de.map De.v) dv U2:=h3'.other fun l o ho a b c hv=>b6 l o ho fun a' b' c' hh=>h2'.ne h3' (by omega) l a' b' c' a b c hh hv
 obtain ⟨dv',U3,c1,c2,c3,c4,c5,c6⟩:=h3''.frz fm b4 b5 hn'' ud (wDe de)
 have g1:=a3 [] [.int .i64 kd,.str tx,.sl false (tg.map Ex.v),.sl false (ex.map Ex.v),ev,dv,.sl false (bo.map Sm.v)] (by intro v hv;simp at hv) (by
  intro v hv;simp only[qum,qva,or_false] at hv;rcases hv with rfl|rfl|rfl|rfl|rfl|rfl|rfl
  ·exact Nf.under rfl
  ·exact Nf.under rfl
  ·exact Nf.under (vl_under Ex.v_under _ _)
  ·exact Nf.under (vl_under Ex.v_under _ _)
  ·exact Nf.gx h1 h2 (by omega) ue
  ·exact Nf.gx h1 h3 (by omega) ud
  ·exact Nf.under (vl_under Sm.v_under _ _))
 have g2:=b3 [lv',.int .i64 kd,.str tx,.sl false (tg.map Ex.v),.sl false (ex.map Ex.v)] [dv,.sl false (bo.map Sm.v)] (by
  intro v hv;simp only[qum,qva,or_false] at hv;rcases hv with rfl|rfl|rfl|rfl|rfl
  ·exact Nf.under a1
  ·exact Nf.under rfl
  ·exact Nf.under rfl
  ·exact Nf.under (vl_under Ex.v_under _ _)
  ·exact Nf.under (vl_under Ex.v_under _ _)) (by
  intro v hv;simp only[qum,qva,or_false] at hv;rcases hv with rfl|rfl
  ·exact Nf.gx h2' h3' (by omega) ud
  ·exact Nf.under (vl_under Sm.v_under _ _))
 have g3:=c3 [lv',.int .i64 kd,.str tx,.sl false (tg.map Ex.v),.sl false (ex.map Ex.v),ev'] [.sl false (bo.map Sm.v)] (by
  intro v hv;simp only[qum,qva,or_false] at hv;rcases hv with rfl|rfl|rfl|rfl|rfl|rfl
  ·exact Nf.under a1
  ·exact Nf.under rfl
  ·exact Nf.under rfl
  ·exact Nf.under (vl_under Ex.v_under _ _)
  ·exact Nf.under (vl_under Ex.v_under _ _)
  ·exact Nf.under b1) (by
  intro v hv;simp only[qum,qva,or_false] at hv;subst hv;exact Nf.under (vl_under Sm.v_under _ _))
 simp only[qt8,qut] at g1 g2 g3;refine ⟨[_],by simp only[rvs,he,ldS,hc];rfl,_,U3,((g1.trans g2).trans g3).trans qaX.weak,?_,F,D,c4,c5⟩;simp only[V.weak,V.weakL,a2,b2,c2,wEx,wSm,Sm.v_eq];rfl
theorem Gw.neC{sz sz' n0 w k wr:Nat}{F D:Nat→Prop}{xs ys:List V}{v:V}{S:St}(h:Gw sz n0 w F D xs v S)(hk:S[k]?=some (.arr ys sz' wr))(hs:sz≠sz'):∀a b c,v≠.arr k a b c:=by
 rintro a b c rfl;rcases h with ⟨_,h⟩|⟨l',wr',h1,h2,h3,h4,h5⟩
 ·cases h
 ·cases h3;rw[hk] at h4;cases h4;exact hs rfl
theorem Gw.setC{sz sz' n0 w k wr:Nat}{F D:Nat→Prop}{xs ys:List V}{v:V}{S:St}(h:Gw sz n0 w F D xs v S)(hk:S[k]?=some (.arr ys sz' wr))(hs:sz≠sz')(o:Ob):Gw sz n0 w F D xs v (S.set k o):=
 by
 rcases h with h|⟨l,wr',h1,h2,h3,h4,h5⟩
 ·exact .inl h
 ·exact .inr ⟨l,wr',h1,h2,h3,by rw[qtY (by rintro rfl;rw[hk] at h4;cases h4;exact hs rfl)];exact h4,h5⟩
structure Cx(w sz:Nat)(P:(Nat→Prop)→(Nat→Prop)→St→Prop)(F D:Nat→Prop)(S:St)(x z y:V)(F' D':Nat→Prop)(U:St):Prop where
 rk:P F' D' U
 st:Stp w F D S F' D' U
 b0:U[S.length]?=some (.arr [x] sz 1)
 b1:U[S.length+1]?=some (.arr [z] sz 1)
 b2:U[S.length+2]?=some (.arr [y] sz 1)
 o0:Off w F' D' S.length
 o1:Off w F' D' (S.length+1)
 o2:Off w F' D' (S.length+2)
section
variable {w sz:Nat} {P P2:(Nat→Prop)→(Nat→Prop)→St→Prop} {F D F' D' F2 D2:Nat→Prop} {S U U2:St} {x z y:V}
theorem Cx.call(c:Cx w sz P F D S x z y F' D' U)(k:P2 F2 D2 U2)(s:Stp w F' D' U F2 D2 U2):Cx w sz P2 F D S x z y F2 D2 U2:=
 ⟨k,c.st.trans s,s.at c.o0 c.b0,s.at c.o1 c.b1,s.at c.o2 c.b2,c.o0.next (glt c.b0) s,c.o1.next (glt c.b1) s,c.o2.next (glt c.b2) s⟩
theorem Cx.app(c:Cx w sz P F D S x z y F' D' U){gv:V}(k:P F' D' U2)(s:Stp w F D S F' D' U2)(ho:∀l o,U[l]?=some o→(∀a b c,gv≠.arr l a b c)→U2[l]?=some o)(hg:∀k ys wr,U[k]?=some (.arr ys sz wr)→∀a b c,gv≠.arr k a b c):Cx w sz P F D S x z y F' D' U2:=
 ⟨k,s,ho _ _ c.b0 (hg _ _ _ c.b0),ho _ _ c.b1 (hg _ _ _ c.b1),ho _ _ c.b2 (hg _ _ _ c.b2),c.o0,c.o1,c.o2⟩
theorem Cx.put(fm:Frm w P)(c:Cx w sz P F D S x z y F' D' U)(y':V):Cx w sz P F D S x z y' F' D' (U.set (S.length+2) (.arr [y'] sz 1)):=
 ⟨fm.set c.rk _ c.o2,c.st.set _ (by omega),by rw[qtY (by omega)];exact c.b0,by rw[qtY (by omega)];exact c.b1,qtZ (glt c.b2),c.o0,c.o1,c.o2⟩
theorem Cx.push(fm:Frm w P)(c:Cx w sz P F D S x z y F' D' U)(os:List Ob):Cx w sz P F D S x z y F' D' (U++os):=
 ⟨fm.push c.rk _,c.st.push _,gpp c.b0,gpp c.b1,gpp c.b2,c.o0,c.o1,c.o2⟩
end
def IvL(len:Nat)(A:Nat→V→(Nat→Prop)→(Nat→Prop)→St→Prop)(env:Nat→V→Env)(j:Nat)(e:Env)(U:St):Prop:=∃(i:Nat) (gv:V) (F' D':Nat→Prop),j=len - i∧i≤len∧A i gv F' D' U∧e=env i gv
def IvW(A:V→(Nat→Prop)→(Nat→Prop)→St→Prop)(env:V→Env)(e:Env)(U:St):Prop:=∃(gv:V) (F' D':Nat→Prop),A gv F' D' U∧Env.sub (env gv) e
abbrev deZ:V:=.agg [.int .i64 0,.bool false,.int .i64 0,.sl true [],.sl true [],.sl true [],.sl true []]
abbrev deA(d:De)(nv ev fv bv:V):V:=.agg [.int .i64 d.kind,.bool d.own,.int .i64 d.type,nv,ev,fv,bv]
theorem De.rw_eq(r:Rp)(own sc:Scs)(n:Nat)(d:De):d.rw r own sc n=if d.kind=4 then .mk d.kind d.own d.type (d.names.map (rren r own)) (Ex.rwl r own d.exps) (d.formals.map (Fo.rw r (qad (d.formals.map Fo.name) n::own))) (Sm.rw1 r (qad (d.formals.map Fo.name) n::own) (n+(qad (d.formals.map Fo.name) n).length) d.body)
  else .mk d.kind d.own d.type (d.names.map (rren r own)) (Ex.rwl r (if d.kind=2 then sc else own) d.exps) d.formals d.body:=by
 cases d;rw[De.rw];rfl
theorem De.rs_eq(r:Rp)(own sc:Scs)(n:Nat)(st:Rst)(d:De):d.rs r own sc n st=if d.kind=4 then Sm.rs1 r (qad (d.formals.map Fo.name) n::own) (n+(qad (d.formals.map Fo.name) n).length) (Ex.rsl r own st d.exps) d.body
  else Ex.rsl r (if d.kind=2 then sc else own) st d.exps:=by
 cases d;rw[De.rs];rfl
theorem De.bn_eq(d:De):d.bn=if d.kind=4 then nms (d.formals.map Fo.name)++Sm.bn1 d.body else []:=by
 cases d;rw[De.bn];rfl
theorem map_take{α β:Type}(f:α→β)(l:List α)(i:Nat)(h:i<l.length):(l.take (i+1)).map f=(l.take i).map f++[f l[i]]:=by
 rw[qt9,qtX h,quB,quh];rfl
theorem qb8{U:St}{l sz:Nat}{cs:List V}{j:Nat}{v:V}(h:U[l]?=some (.arr [.agg cs] sz 1))(hv:v.cells=[v]∧v.flat=true∧v.size=1)(hj:j+1≤cs.length)(hc:cs.length≠1):stS U (.ptr l 0 j 1) 1 v=some (U.set l (.arr [.agg (cs.take j++v::cs.drop (j+1))] sz 1)):=by
 have h0:¬ (j=0∧1=cs.length):=fun hh=>hc hh.2.symm
 simp[stS,h,qac,hv.1,hv.2.1,hv.2.2,hj,h0]
theorem Gx.setC{sz sz' n0 w k wr:Nat}{F D:Nat→Prop}{xs ys:List V}{v:V}{S:St}(h:Gx sz n0 w F D xs v S)(hk:S[k]?=some (.arr ys sz' wr))(hs:sz≠sz')(o:Ob):Gx sz n0 w F D xs v (S.set k o):=h.imp id fun h=>h.setC hk hs o
theorem Gw.nr{n0 w:Nat}{F D:Nat→Prop}{names:List ByteArray}{v:V}{S:St}(h:Gw 1 n0 w F D (names.map .str) v S):Nr w F D names v S:=by
 rcases h with ⟨h1,rfl⟩|⟨l,wr,h1,h2,rfl,h4,h5⟩
 ·rw[List.map_eq_nil_iff] at h1;subst h1;exact .inl ⟨true,rfl⟩
 ·rw[qt2] at h5 ⊢;exact .inr ⟨l,wr,h2,rfl,h4,h5⟩
theorem qkO(r:Rp)(ho:RpOk r)(bf bt:Bool)(w:Nat)(fv:V)(d:De)(H:∀s,s∈d.body→P194 r bf bt w fv s)(hsz:(Pa.de d).size≤4000)(bound:List ByteArray)(st:Rst)(F D:Nat→Prop)(S:St)(b b':Bool)(sc own:Scs)(hk:Rk r bf bt w fv bound st F D S)(ok:Okw bound st own d.nb (Pa.de d).size)(hd:ScD sc)(hfl:(Scs.flat sc).length≤bound.length):
  Spec prog 230 [.ptr w 0 0 1,d.v,.sl b ((Scs.flat sc).map bndV),.sl b' ((Scs.flat own).map bndV)] S (fun v U=>Rd' w (Rk r bf bt w fv (bound++d.bn) (d.rs r own sc bound.length st)) F D S (d.rw r own sc bound.length).v v U):=by
 refine Spec.ib func230 ok230 ?_;have hparts:=De.size_parts d;have hbo:=ok.bo;have hfr:=ok.fr;have hof:=ok.fl;rw[De.rw_eq,De.rs_eq,De.bn_eq];rw[De.nb_eq] at hbo;have fm:=fun bo s=>Rk.frm r bf bt w fv bo s
 obtain ⟨ev,hev⟩:∃ev,ev=V.sl false (d.exps.map Ex.v):=⟨_,rfl⟩;obtain ⟨fv0,hfv0⟩:∃fv0,fv0=V.sl false (d.formals.map Fo.v):=⟨_,rfl⟩;obtain ⟨bv,hbv⟩:∃bv,bv=V.sl false (d.body.map Sm.v):=⟨_,rfl⟩;obtain ⟨S2,hS2⟩:∃S2:St,S2=S++[.arr [d.v] 7 1,.arr [deZ] 7 1,.arr [deA d (.sl true []) ev fv0 bv] 7 1]:=⟨_,rfl⟩
 have C0:Cx w 7 (Rk r bf bt w fv bound st) F D S d.v deZ (deA d (.sl true []) ev fv0 bv) F D S2:=by
  refine ⟨by rw[hS2];exact (fm _ _).push hk _,by rw[hS2];exact (Stp.refl _ _ _ _).push _,?_,?_,?_,(fm _ _).out hk (by omega),(fm _ _).out hk (by omega),(fm _ _).out hk (by omega)⟩
  all_goals rw[hS2,qtW (by omega)];simp
 have fin:∀{bo s F' D' U} (nm:List ByteArray) (ex:List Ex) (fo:List Fo) (bd:List Sm) (nv fx:V),Cx w 7 (Rk r bf bt w fv bo s) F D S d.v deZ (deA d nv (.sl false (ex.map Ex.v)) fx (.sl false (bd.map Sm.v))) F' D' U→Gx 1 S.length w F' D' (nm.map .str) nv U→Gx 4 S.length w F' D' (fo.map Fo.v) fx U→
   ldS U (.ptr (S.length+2) 0 0 1) (some 7)=some (deA d nv (.sl false (ex.map Ex.v)) fx (.sl false (bd.map Sm.v)))∧∃U',stS U (.ptr (S.length+1) 0 0 1) 7 (deA d nv (.sl false (ex.map Ex.v)) fx (.sl false (bd.map Sm.v)))=some U'∧
   ∀e:Env,e.get 8=some (.ptr (S.length+1) 0 0 1)→endp [.cell 8 (some 7)] S.length (fun v U=>Rd' w (Rk r bf bt w fv bo s) F D S (De.mk d.kind d.own d.type nm ex fo bd).v v U) .ret e U':=by
  intro bo s F' D' U nm ex fo bd nv fx hC h1 h2;have f1:=h1.flatV;have f2:=h2.flatV;have hl:∀x:V,x.flat=true→True:=fun _ _=>trivial
  refine ⟨by simp[ldS,hC.b2,qah],U.set (S.length+1) (.arr [deA d nv (.sl false (ex.map Ex.v)) fx (.sl false (bd.map Sm.v))] 7 1),by simp[stS,hC.b1,qac,f1.2.1,f2.2.1],fun e he=>?_⟩;exact qtG (fm bo s) (qtZ (glt hC.b1)) he (h1.setC hC.b1 (by omega) _) (h2.setC hC.b1 (by omega) _) (qt1 _) (qt1 _) ((fm bo s).set hC.rk _ hC.o1) (hC.st.set _ (by omega))
 simp[c230,boxS,evX,stS,ldS,qgg,qac];rw[←hev,←hfv0,←hbv];rw[←hS2];obtain ⟨A,hA⟩:∃A:Nat→V→(Nat→Prop)→(Nat→Prop)→St→Prop,∀i gv F' D' U,A i gv F' D' U↔(Cx w 7 (Rk r bf bt w fv bound st) F D S d.v deZ (deA d gv ev fv0 bv) F' D' U∧Gw 1 S.length w F' D' (((d.names.take i).map (rren r own)).map .str) gv U):=⟨_,fun _ _ _ _ _=>Iff.rfl⟩;refine qaz (IvW (A d.names.length) fun _=>[(0,.ptr w 0 0 1),(2,.sl b ((Scs.flat sc).map bndV)),(3,.sl b' ((Scs.flat own).map bndV)),(5,.ptr S.length 0 0 1),(8,.ptr (S.length+1) 0 0 1),(9,.ptr (S.length+2) 0 0 1)]) ?_ ?_
 ·refine qar (IvL d.names.length A fun i _=>[(10,.int .i64 i),(0,.ptr w 0 0 1),(2,.sl b ((Scs.flat sc).map bndV)),(3,.sl b' ((Scs.flat own).map bndV)),(5,.ptr S.length 0 0 1),(8,.ptr (S.length+1) 0 0 1),(9,.ptr (S.length+2) 0 0 1)]) d.names.length _ ?_ ⟨0,_,F,D,by simp,by omega,(hA _ _ _ _ _).2 ⟨C0,Gw.nil _ _ _ _ _ _⟩,rfl⟩ ?_
  ·exact Env.so (by simp)
  rintro j e U ⟨i,gv,F1,D1,rfl,hi,hI,rfl⟩;obtain ⟨hC,hg⟩:=(hA _ _ _ _ _).1 hI;have hn:ldS U (.ptr S.length 0 3 1) none=some (.sl false (d.names.map .str)):=by simp[ldS,hC.b0]
  by_cases hlt:i<d.names.length
  ·have hia:=qc4 hlt false U;have hgv:ldS U (.ptr (S.length+2) 0 3 1) none=some gv:=by simp[ldS,hC.b2]
   have hfs:fits 1 [V.str (rren r own d.names[i])]=true:=rfl;obtain ⟨gv',U2,ha,hg2,k2,s2,a5,a6⟩:=hg.app1F (fm bound st) (bytes:=16) (b:=true) (y:=.str (rren r own d.names[i])) hC.rk hC.st hfs (by simp;omega);have C2:=hC.app (gv:=gv) k2 s2 a5 fun k ys wr hk'=>hg.neC hk' (by omega)
   have hst:=qb8 (j:=3) C2.b2 hg2.flatV (by simp) (by simp);simp only[List.take,List.drop,qt8,qut] at hst;have C3:=C2.put (fm bound st) (deA d gv' ev fv0 bv);have hg3:=hg2.setC C2.b2 (by omega) (.arr [deA d gv' ev fv0 bv] 7 1);have hm:((d.names.take (i+1)).map (rren r own)).map V.str=((d.names.take i).map (rren r own)).map .str++[.str (rren r own d.names[i])]:=by rw[map_take _ _ _ hlt,quh];rfl
   rw[←hm] at hg3;simp[hn,hlt,hgv,hia,qbb];refine qba (qg1 r bf bt w fv bound st F1 D1 U hC.rk b' own ok.nd (by omega) d.names[i]) ?_;simp[hfs,ha,hst];simp[dend,qbj,qbw,hgv];simp[qaL (n:=(i:Int)+1)];refine ⟨_,?_,_,?_,i+1,gv',F1,D1,rfl,by omega,(hA _ _ _ _ _).2 ⟨C3,hg3⟩,rfl⟩
   ·omega
   ·exact Env.so (by simp)
  ·have:i=d.names.length:=by omega
   subst this;simp[hn];refine ⟨gv,F1,D1,hI,?_⟩;exact Env.so (by simp)
 rintro e U ⟨gv,F0,D0,hI,hsub⟩;obtain ⟨hC,hg⟩:=(hA _ _ _ _ _).1 hI;rw[qun] at hg;have g0:e.get 0=_:=hsub 0 _ rfl;have g2:e.get 2=_:=hsub 2 _ rfl;have g3:e.get 3=_:=hsub 3 _ rfl;have g5:e.get 5=_:=hsub 5 _ rfl;have g8:e.get 8=_:=hsub 8 _ rfl;have g9:e.get 9=_:=hsub 9 _ rfl;have hkd:ldS U (.ptr S.length 0 0 1) none=some (.int .i64 d.kind):=by simp[ldS,hC.b0]
 have hxd:ldS U (.ptr S.length 0 4 1) none=some ev:=by rw[hev];simp[ldS,hC.b0]
 by_cases h2:d.kind=2
 ·have h4:d.kind≠4:=by omega
  rw[if_neg h4,if_neg h4,if_neg h4,if_pos h2,qu4];simp[g0,g2,g5,g9,hkd,hxd,h2];rw[hev];refine qan (qfe r ho bf bt w fv d.exps (by omega) bound st F0 D0 U false b sc hC.rk hd (by omega) (by omega)) ?_;rintro v U2 ⟨rfl,F1,D1,k1,s1⟩;have C1:=hC.call k1 s1;have hst:=qb8 (j:=4) (v:=.sl false ((Ex.rwl r sc d.exps).map Ex.v)) C1.b2 ⟨rfl,rfl,rfl⟩ (by simp) (by simp);simp only[List.take,List.drop,qt8,qut] at hst;have C2:=C1.put (fm _ _) (deA d gv (.sl false ((Ex.rwl r sc d.exps).map Ex.v)) fv0 bv);have hg2:=(hg.step s1).setC C1.b2 (by omega) (.arr [deA d gv (.sl false ((Ex.rwl r sc d.exps).map Ex.v)) fv0 bv] 7 1);subst hbv hfv0;obtain ⟨p1,U3,p2,p3⟩:=fin (d.names.map (rren r own)) (Ex.rwl r sc d.exps) d.formals d.body gv _ C2 (.inr hg2) (.inl ⟨false,rfl⟩);simp[g8,g9,hst,p1,p2]
  first|exact p3 _ g8|(rw[h2] at p3;exact p3 _ g8)
 simp[g0,g3,g5,g9,hkd,hxd,h2];rw[hev];refine qan (qfe r ho bf bt w fv d.exps (by omega) bound st F0 D0 U false b' own hC.rk ok.nd (by omega) (by omega)) ?_;rintro v U2 ⟨rfl,F1,D1,k1,s1⟩;have C1:=hC.call k1 s1;obtain ⟨ev1,hev1⟩:∃ev1,ev1=V.sl false ((Ex.rwl r own d.exps).map Ex.v):=⟨_,rfl⟩;have hst:=qb8 (j:=4) (v:=ev1) C1.b2 (by rw[hev1];exact ⟨rfl,rfl,rfl⟩) (by simp) (by simp);simp only[List.take,List.drop,qt8,qut] at hst;have C2:=C1.put (fm _ _) (deA d gv ev1 fv0 bv);have hg2:=(hg.step s1).setC C1.b2 (by omega) (.arr [deA d gv ev1 fv0 bv] 7 1);rw[←hev1];obtain ⟨U3,hU3⟩:∃U3,U3=U2.set (S.length+2) (.arr [deA d gv ev1 fv0 bv] 7 1):=⟨_,rfl⟩;rw[←hU3] at hst C2 hg2;have hkd:ldS U3 (.ptr S.length 0 0 1) none=some (.int .i64 d.kind):=by simp[ldS,C2.b0]
 by_cases h4:d.kind=4
 case neg=>
  rw[if_neg h4,if_neg h4,if_neg h4,qu4]
  try simp only[if_neg h2]
  subst hbv hfv0 hev1;obtain ⟨p1,U4,p2,p3⟩:=fin (d.names.map (rren r own)) (Ex.rwl r own d.exps) d.formals d.body gv _ C2 (.inr hg2) (.inl ⟨false,rfl⟩);simp[g5,g8,g9,hst,hkd,h4,p1,p2];exact p3 _ g8
 rw[if_pos h4,if_pos h4,if_pos h4];rw[if_pos h4] at hbo;unfold De.prN at hbo;obtain ⟨st1,hst1⟩:∃st1,st1=Ex.rsl r own st d.exps:=⟨_,rfl⟩;have hst1l:=Ex.rsl_len r own d.exps st;rw[←hst1] at C2 hst1l ⊢;simp[g5,g9,hst,hkd,h4];obtain ⟨names,hnames⟩:∃names,names=d.formals.map Fo.name:=⟨_,rfl⟩;have hnl:names.length=d.formals.length:=by rw[hnames];simp
 obtain ⟨B,hB⟩:∃A:Nat→V→(Nat→Prop)→(Nat→Prop)→St→Prop,∀i hv F' D' U,A i hv F' D' U↔(Cx w 7 (Rk r bf bt w fv bound st1) F D S d.v deZ (deA d gv ev1 fv0 bv) F' D' U∧Gw 1 S.length w F' D' ((d.names.map (rren r own)).map .str) gv U∧Gw 1 S.length w F' D' (((d.formals.take i).map Fo.name).map .str) hv U∧qfn hv gv):=⟨_,fun _ _ _ _ _=>Iff.rfl⟩;refine qaz (IvW (B d.formals.length) fun hv=>[(11,hv),(0,.ptr w 0 0 1),(3,.sl b' ((Scs.flat own).map bndV)),(5,.ptr S.length 0 0 1),(8,.ptr (S.length+1) 0 0 1),(9,.ptr (S.length+2) 0 0 1)]) ?_ ?_
 ·refine qar (IvL d.formals.length B fun i hv=>[(12,.int .i64 i),(11,hv),(0,.ptr w 0 0 1),(3,.sl b' ((Scs.flat own).map bndV)),(5,.ptr S.length 0 0 1),(8,.ptr (S.length+1) 0 0 1),(9,.ptr (S.length+2) 0 0 1)]) d.formals.length _ ?_ ⟨0,_,F1,D1,by simp,by omega,(hB _ _ _ _ _).2 ⟨C2,hg2,Gw.nil _ _ _ _ _ _,fun l a b c hh=>V.noConfusion hh⟩,rfl⟩ ?_
  ·repeat' first|exact Env.sub_nil _|refine Env.sub_cons (by simp[g0,g3,g5,g8,g9]) ?_
  rintro j e U ⟨i,hv,F1,D1,rfl,hi,hI,rfl⟩;obtain ⟨hC,hg,hh,hdf⟩:=(hB _ _ _ _ _).1 hI;have hn:ldS U (.ptr S.length 0 5 1) none=some (.sl false (d.formals.map Fo.v)):=by simp[ldS,hC.b0]
  by_cases hlt:i<d.formals.length
  ·have hia:=iaFo hlt false U;have hfs:fits 1 [V.str d.formals[i].name]=true:=rfl;obtain ⟨hv',U2,ha,hh2,k2,s2,a5,a6⟩:=hh.app1F (fm bound st1) (bytes:=16) (b:=true) (y:=.str d.formals[i].name) hC.rk hC.st hfs (by simp;omega);have C2:=hC.app (gv:=hv) k2 s2 a5 fun k ys wr hk'=>hh.neC hk' (by omega)
   have hg':=hg.other fun l o ho a b c hv'=>a5 l o ho fun a' b' c' hh=>hdf l a' b' c' hh a b c hv'
   have hm:((d.formals.take (i+1)).map Fo.name).map V.str=((d.formals.take i).map Fo.name).map .str++[.str d.formals[i].name]:=by rw[map_take _ _ _ hlt,quh];rfl
   rw[←hm] at hh2;have glt':=hg.lt
   have df2:qfn hv' gv:=fun l a b c hh a' b' c' hg=>by
    rcases a6 l a b c hh with h1|h1
    ·exact hdf l _ _ _ h1 _ _ _ hg
    ·have:=glt' l _ _ _ hg;omega
   simp[hn,hlt,hia,hfs,ha,qaL (n:=(i:Int)+1)];refine ⟨_,?_,_,?_,i+1,hv',F1,D1,rfl,by omega,(hB _ _ _ _ _).2 ⟨C2,hg',hh2,df2⟩,rfl⟩
   ·omega
   ·exact Env.so (by simp)
  ·have:i=d.formals.length:=by omega
   subst this;simp[hn];refine ⟨hv,F1,D1,hI,?_⟩;exact Env.so (by simp)
 clear hsub g0 g2 g3 g5 g8 g9;rintro e U4 ⟨hv,F4,D4,hI,hsub⟩;obtain ⟨C4,hg4,hh4,_⟩:=(hB _ _ _ _ _).1 hI;rw[qun,←hnames] at hh4;have g0:e.get 0=_:=hsub 0 _ rfl;have g3:e.get 3=_:=hsub 3 _ rfl;have g5:e.get 5=_:=hsub 5 _ rfl;have g8:e.get 8=_:=hsub 8 _ rfl;have g9:e.get 9=_:=hsub 9 _ rfl;have g11:e.get 11=_:=hsub 11 _ rfl;simp[g0,g3,g11];refine qan (qiu r bf bt w fv bound st1 F4 D4 U4 C4.rk b' own names hv hh4.nr (by omega) (by omega)) ?_;rintro v U5 ⟨rfl,F2,D2,k5,s5⟩;have C5:=C4.call k5 s5;have hg5:=hg4.step s5;rw[←hnames];obtain ⟨inner,hinner⟩:∃inner,inner=qad names bound.length::own:=⟨_,rfl⟩;have hbl:(bound++nms names).length=bound.length+(qad names bound.length).length:=by rw[qub,qfs _ bound.length]
 have okw:Okw (bound++nms names) st1 inner (Sm.nb1 d.body) (qaB (d.body.map Pa.st)):=by
  rw[hinner];exact Okw.enter (nb:=(qad names 0).length+Sm.nb1 d.body) ⟨ok.nd,hof,by rw[hnames];omega,by omega⟩ names (qt1 _)
 have hfi:=okw.fl;have hbi:=okw.bo;rw[←hinner];have hst5:=qb8 (j:=5) (v:=.sl true []) C5.b2 ⟨rfl,rfl,rfl⟩ (by simp) (by simp);simp only[List.take,List.drop,qt8,qut] at hst5;have C6:=C5.put (fm _ _) (deA d gv ev1 (.sl true []) bv);have hg6:=hg5.setC C5.b2 (by omega) (.arr [deA d gv ev1 (.sl true []) bv] 7 1);simp[g9,hst5];obtain ⟨E,hE⟩:∃A:Nat→V→(Nat→Prop)→(Nat→Prop)→St→Prop,∀i xv F' D' U,A i xv F' D' U↔(Cx w 7 (Rk r bf bt w fv (bound++nms names) st1) F D S d.v deZ (deA d gv ev1 xv bv) F' D' U∧Gw 1 S.length w F' D' ((d.names.map (rren r own)).map .str) gv U∧Gw 4 S.length w F' D' (((d.formals.take i).map (Fo.rw r inner)).map Fo.v) xv U):=⟨_,fun _ _ _ _ _=>Iff.rfl⟩;refine qaz (IvW (E d.formals.length) fun _=>[(13,.sl false ((Scs.flat inner).map bndV)),(0,.ptr w 0 0 1),(5,.ptr S.length 0 0 1),(8,.ptr (S.length+1) 0 0 1),(9,.ptr (S.length+2) 0 0 1)]) ?_ ?_
 ·refine qar (IvL d.formals.length E fun i _=>[(14,.int .i64 i),(13,.sl false ((Scs.flat inner).map bndV)),(0,.ptr w 0 0 1),(5,.ptr S.length 0 0 1),(8,.ptr (S.length+1) 0 0 1),(9,.ptr (S.length+2) 0 0 1)]) d.formals.length _ ?_ ⟨0,_,F2,D2,by simp,by omega,(hE _ _ _ _ _).2 ⟨C6,hg6,Gw.nil _ _ _ _ _ _⟩,rfl⟩ ?_
  ·repeat' first|exact Env.sub_nil _|refine Env.sub_cons (by simp[g0,g3,g5,g8,g9]) ?_
  rintro j e U ⟨i,xv,F2,D2,rfl,hi,hI,rfl⟩;obtain ⟨hC,hg,hx⟩:=(hE _ _ _ _ _).1 hI;have hn:ldS U (.ptr S.length 0 5 1) none=some (.sl false (d.formals.map Fo.v)):=by simp[ldS,hC.b0]
  by_cases hlt:i<d.formals.length
  ·have hia:=iaFo hlt false U;obtain ⟨f,hf⟩:∃f,f=d.formals[i]:=⟨_,rfl⟩;rw[←hf] at hia;obtain ⟨f',hf'⟩:∃f',f'=Fo.rw r inner f:=⟨_,rfl⟩;have C7:=hC.push (fm _ _) [.arr [f.v] 4 1];have q:=qg1 r bf bt w fv (bound++nms names) st1 F2 D2 _ C7.rk false inner okw.nd (by omega) f.name;have C8:=hC.push (fm _ _) [.arr [f'.v] 4 1];have hg8:=hg.push [.arr [f'.v] 4 1];have hx8:=hx.push [.arr [f'.v] 4 1];have hfs:fits 4 [f'.v]=true:=rfl;obtain ⟨xv',U2,ha,hx2,k2,s2,a5,a6⟩:=hx8.app1F (fm _ _) (bytes:=40) (b:=true) (y:=f'.v) C8.rk C8.st hfs (by simp;omega);have C9:=C8.app (gv:=xv) k2 s2 a5 fun k ys wr hk'=>hx8.neC hk' (by omega)
   have hst9:=qb8 (j:=5) C9.b2 hx2.flatV (by simp) (by simp);simp only[List.take,List.drop,qt8,qut] at hst9;have C10:=C9.put (fm _ _) (deA d gv ev1 xv' bv);have hx10:=hx2.setC C9.b2 (by omega) (.arr [deA d gv ev1 xv' bv] 7 1);have hg9:=hg8.other fun l o ho a b c hv'=>a5 l o ho fun a' b' c' hh=>(Gx.ne (.inr hx8) (.inr hg8) (by omega)) l a' b' c' a b c hh hv'
   have hg10:=hg9.setC C9.b2 (by omega) (.arr [deA d gv ev1 xv' bv] 7 1);have hm:((d.formals.take (i+1)).map (Fo.rw r inner)).map Fo.v=((d.formals.take i).map (Fo.rw r inner)).map Fo.v++[f'.v]:=by rw[map_take _ _ _ hlt,quh,hf',hf];rfl
   rw[←hm] at hx10;have hxv:ldS (U++[.arr [f'.v] 4 1]) (.ptr (S.length+2) 0 5 1) none=some xv:=by simp[ldS,C8.b2]
   have hnm:ldS (U++[.arr [f.v] 4 1]) (.ptr U.length 0 0 1) none=some (.str f.name):=by simp[ldS]
   have hst8:stS (U++[.arr [f.v] 4 1]) (.ptr U.length 0 0 1) 1 (.str (rren r inner f.name))=some (U++[.arr [f'.v] 4 1]):=by
    simp[stS,qpm,qac,hf',Fo.rw,Fo.v]
   have hld8:ldS (U++[.arr [f'.v] 4 1]) (.ptr U.length 0 0 1) (some 4)=some f'.v:=by simp[ldS]
   have hst7:stS (U++[.arr [.agg [.str ⟨⟨[]⟩⟩,.bool false,.int .i64 0,.int .i64 0]] 4 1]) (.ptr U.length 0 0 1) 4 f.v=some (U++[.arr [f.v] 4 1]):=by
    simp[stS,qac]
   simp[hn,hlt,hia,boxS,evX,hst7,hnm];refine qai q ?_;simp[hst8,hxv,hld8,hfs,ha,hst9,qaL (n:=(i:Int)+1)];refine ⟨_,?_,_,?_,i+1,xv',F2,D2,rfl,by omega,(hE _ _ _ _ _).2 ⟨C10,hg10,hx10⟩,rfl⟩
   ·omega
   ·exact Env.so (by simp)
  ·have:i=d.formals.length:=by omega
   subst this;simp[hn];refine ⟨xv,F2,D2,hI,?_⟩;exact Env.so (by simp)
 clear hsub g0 g3 g5 g8 g9 g11;rintro e U7 ⟨xv,F7,D7,hI,hsub⟩;obtain ⟨C7,hg7,hx7⟩:=(hE _ _ _ _ _).1 hI;rw[qun] at hx7;have g0:e.get 0=_:=hsub 0 _ rfl;have g5:e.get 5=_:=hsub 5 _ rfl;have g8:e.get 8=_:=hsub 8 _ rfl;have g9:e.get 9=_:=hsub 9 _ rfl;have g13:e.get 13=_:=hsub 13 _ rfl;have hbd:ldS U7 (.ptr S.length 0 6 1) none=some (.sl false (d.body.map Sm.v)):=by simp[ldS,C7.b0]
 have q:=qf4 r bf bt w fv d.body H (by omega) _ st1 F7 D7 U7 false false inner C7.rk okw;simp[g0,g5,g13,hbd];refine qan q ?_;rintro v U8 ⟨rfl,F3,D3,k8,s8⟩;have C8:=C7.call k8 s8;have hst:=qb8 (j:=6) (v:=.sl false ((Sm.rw1 r inner (bound++nms names).length d.body).map Sm.v)) C8.b2 ⟨rfl,rfl,rfl⟩ (by simp) (by simp);simp only[List.take,List.drop,qt8,qut] at hst;have C9:=C8.put (fm _ _) (deA d gv ev1 xv (.sl false ((Sm.rw1 r inner (bound++nms names).length d.body).map Sm.v)));have hg9:=(hg7.step s8).setC C8.b2 (by omega) (.arr [deA d gv ev1 xv (.sl false ((Sm.rw1 r inner (bound++nms names).length d.body).map Sm.v))] 7 1);have hx9:=(hx7.step s8).setC C8.b2 (by omega) (.arr [deA d gv ev1 xv (.sl false ((Sm.rw1 r inner (bound++nms names).length d.body).map Sm.v))] 7 1);subst hev1;obtain ⟨p1,U9,p2,p3⟩:=fin (d.names.map (rren r own)) (Ex.rwl r own d.exps) (d.formals.map (Fo.rw r inner)) _ gv xv C9 (.inr hg9) (.inr hx9);rw[qt5,hbl] at p3;rw[hbl] at hst p1 p2;simp[g8,g9,hbl,hst,p1,p2]
 first|exact p3 _ g8|(rw[h4] at p3;exact p3 _ g8)
abbrev smA(s:Sm)(lv tx tg ex el dv bv:V):V:=.agg [lv,.int .i64 s.kind,tx,tg,ex,el,dv,bv]
theorem Sm.rw_eq(r:Rp)(sc:Scs)(n:Nat)(s:Sm):s.rw r sc n=
  if s.kind=7 then .mk (s.labels.map (rren r sc)) s.kind s.text s.targets s.exps s.elems (De.rwl r (qad (qag s.decls s.body) n::sc) sc (n+(qad (qag s.decls s.body) n).length) s.decls) (Sm.rwl r (qad (qag s.decls s.body) n::sc) (n+(qad (qag s.decls s.body) n).length+De.nbl s.decls) s.body)
  else if s.kind=8 then .mk (s.labels.map (rren r sc)) s.kind s.text s.targets s.exps s.elems s.decls (Sm.rwl r (qad (qak s.body) n::sc) (n+(qad (qak s.body) n).length) s.body)
  else .mk (s.labels.map (rren r sc)) s.kind (if s.kind=6 then qb4 r sc s.text else s.text) (Ex.rwl r sc s.targets) (Ex.rwl r sc s.exps) (s.elems.map (El.rw r sc)) s.decls (Sm.rw1 r sc n s.body):=by
 cases s;rw[Sm.rw];rfl
theorem Sm.rs_eq(r:Rp)(sc:Scs)(n:Nat)(st:Rst)(s:Sm):s.rs r sc n st=
  if s.kind=7 then Sm.rsl r (qad (qag s.decls s.body) n::sc) (n+(qad (qag s.decls s.body) n).length+De.nbl s.decls) (De.rsl r (qad (qag s.decls s.body) n::sc) sc (n+(qad (qag s.decls s.body) n).length) st s.decls) s.body
  else if s.kind=8 then Sm.rsl r (qad (qak s.body) n::sc) (n+(qad (qak s.body) n).length) st s.body
  else Sm.rs1 r sc n (Ex.rsl r sc (El.rsl r sc (tgS r sc (if s.kind=6 then qbl r sc s.text st else st) s.targets) s.elems) s.exps) s.body:=by
 cases s;rw[Sm.rs];rfl
theorem Sm.bn_eq(s:Sm):s.bn=if s.kind=7 then nms (qag s.decls s.body)++De.bnl s.decls++Sm.bnl s.body else if s.kind=8 then nms (qak s.body)++Sm.bnl s.body else Sm.bn1 s.body:=by
 cases s;rw[Sm.bn];rfl
theorem qmc(l:List De)(i:Nat)(h:i<l.length):De.nbl (l.take (i+1))=De.nbl (l.take i)+l[i].nb∧De.nbl (l.take (i+1))≤De.nbl l:=by
 have ht:l.take (i+1)=l.take i++[l[i]]:=by rw[qt9,qtX h];rfl
 refine ⟨by rw[ht,De.nbl_append];simp[De.nbl],?_⟩;have:De.nbl l=De.nbl (l.take (i+1))+De.nbl (l.drop (i+1)):=by rw[←De.nbl_append,quF]
 omega
theorem qff:∀l:List De,(l.flatMap De.names).length≤qaB (l.map Pa.de)
 | []=>by simp
 | x::m=>by
  have ih:=qff m;have:=De.size_parts x;simp only[quT,qub,qud,sizes_cons] at ih ⊢;omega
theorem qkD(l:List De)(i:Nat)(h:i<l.length):(l.take (i+1)).flatMap De.names=(l.take i).flatMap De.names++l[i].names∧((l.take i).flatMap De.names).length+l[i].names.length≤qaB (l.map Pa.de):=by
 have ht:l.take (i+1)=l.take i++[l[i]]:=by rw[qt9,qtX h];rfl
 refine ⟨by rw[ht,List.flatMap_append];simp,?_⟩;have h1:=qff (l.take i);have h2:=qcm Pa.de l i h;have h3:=De.size_parts l[i];omega
theorem El.rsl_append(r:Rp)(sc:Scs)(l m:List El)(st:Rst):El.rsl r sc st (l++m)=El.rsl r sc (El.rsl r sc st l) m:=quL ..
theorem qiB(r:Rp)(ho:RpOk r)(bf bt:Bool)(w:Nat)(fv:V):∀(m:Nat) (s:Sm),(Pa.st s).size≤m→m≤4000→P194 r bf bt w fv s
 | 0,s,hx,_=>by have:=(Pa.st s).size_pos;omega
 | m+1,s,hx,hm=>by
  intro bound st F D S b sc hk ok;have hparts:=Sm.size_parts s
  have IHb:∀y,y∈s.body→P194 r bf bt w fv y:=fun y hy=>qiB r ho bf bt w fv m y (by
   obtain ⟨i,hi⟩:=qux (quz (f:=Pa.st) hy);have:=qaW hi;omega) (by omega)
  have IHd:∀d,d∈s.decls→∀y,y∈d.body→P194 r bf bt w fv y:=fun d hd y hy=>qiB r ho bf bt w fv m y (by
   obtain ⟨i,hi⟩:=qux (quz (f:=Pa.de) hd);have h1:=qaW hi;have h2:=De.size_parts d;obtain ⟨j,hj⟩:=qux (quz (f:=Pa.st) hy);have:=qaW hj;omega) (by omega)
  have hbl:s.body.length≤4000:=by have:=qaP (s.body.map Pa.st);rw[qt2] at this;omega
  have hdl:s.decls.length≤4000:=by have:=qaP (s.decls.map Pa.de);rw[qt2] at this;omega
  have hell:s.elems.length≤4000:=by have:=qaP (s.elems.map Pa.el);rw[qt2] at this;omega
  have hbo:=ok.bo;have hfr:=ok.fr;have hof:=ok.fl;rw[Sm.nb_eq] at hbo;refine Spec.ib func194 ok194 ?_;rw[Sm.rw_eq,Sm.rs_eq,Sm.bn_eq];have fm:=fun bo s=>Rk.frm r bf bt w fv bo s
  obtain ⟨tg,htg⟩:∃x,x=V.sl false (s.targets.map Ex.v):=⟨_,rfl⟩;obtain ⟨ex,hex⟩:∃x,x=V.sl false (s.exps.map Ex.v):=⟨_,rfl⟩;obtain ⟨el,hel⟩:∃x,x=V.sl false (s.elems.map El.v):=⟨_,rfl⟩;obtain ⟨dv,hdv⟩:∃x,x=V.sl false (s.decls.map De.v):=⟨_,rfl⟩;obtain ⟨bv,hbv⟩:∃x,x=V.sl false (s.body.map Sm.v):=⟨_,rfl⟩;obtain ⟨S2,hS2⟩:∃S2:St,S2=S++[.arr [s.v] 8 1,.arr [smZ] 8 1,.arr [smA s (.sl true []) (.str s.text) tg ex el dv bv] 8 1]:=⟨_,rfl⟩
  have C0:Cx w 8 (Rk r bf bt w fv bound st) F D S s.v smZ (smA s (.sl true []) (.str s.text) tg ex el dv bv) F D S2:=by
   refine ⟨by rw[hS2];exact (fm _ _).push hk _,by rw[hS2];exact (Stp.refl _ _ _ _).push _,?_,?_,?_,(fm _ _).out hk (by omega),(fm _ _).out hk (by omega),(fm _ _).out hk (by omega)⟩
   all_goals rw[hS2,qtW (by omega)];simp
  have fin:∀{bo s' F' D' U} (lb:List ByteArray) (tx:ByteArray) (tg ex:List Ex) (el:List El) (de:List De) (bd:List Sm) (lv elv dv:V),Cx w 8 (Rk r bf bt w fv bo s') F D S s.v smZ (smA s lv (.str tx) (.sl false (tg.map Ex.v)) (.sl false (ex.map Ex.v)) elv dv (.sl false (bd.map Sm.v))) F' D' U→Gx 1 S.length w F' D' (lb.map .str) lv U→Gx 2 S.length w F' D' (el.map El.v) elv U→Gx 7 S.length w F' D' (de.map De.v) dv U→
    ldS U (.ptr (S.length+2) 0 0 1) (some 8)=some (smA s lv (.str tx) (.sl false (tg.map Ex.v)) (.sl false (ex.map Ex.v)) elv dv (.sl false (bd.map Sm.v)))∧∃U',stS U (.ptr (S.length+1) 0 0 1) 8 (smA s lv (.str tx) (.sl false (tg.map Ex.v)) (.sl false (ex.map Ex.v)) elv dv (.sl false (bd.map Sm.v)))=some U'∧
    ∀e:Env,e.get 6=some (.ptr (S.length+1) 0 0 1)→endp [.cell 6 (some 8)] S.length (fun v U=>Rd' w (Rk r bf bt w fv bo s') F D S (Sm.mk lb s.kind tx tg ex el de bd).v v U) .ret e U':=by
   intro bo s' F' D' U lb tx tg ex el de bd lv elv dv hC h1 h2 h3;have f1:=h1.flatV;have f2:=h2.flatV;have f3:=h3.flatV;refine ⟨by simp[ldS,hC.b2,qah],U.set (S.length+1) (.arr [smA s lv (.str tx) (.sl false (tg.map Ex.v)) (.sl false (ex.map Ex.v)) elv dv (.sl false (bd.map Sm.v))] 8 1),by simp[stS,hC.b1,qac,f1.2.1,f2.2.1,f3.2.1],fun e he=>?_⟩;exact qtH (fm bo s') (qtZ (glt hC.b1)) he (h1.setC hC.b1 (by omega) _) (h2.setC hC.b1 (by omega) _) (h3.setC hC.b1 (by omega) _) (qt1 _) (qt1 _) (qt1 _) ((fm bo s').set hC.rk _ hC.o1) (hC.st.set _ (by omega))
  simp[c194,boxS,evX,stS,ldS,qc3,qac];rw[←htg,←hex,←hel,←hdv,←hbv];rw[←hS2];obtain ⟨A,hA⟩:∃A:Nat→V→(Nat→Prop)→(Nat→Prop)→St→Prop,∀i gv F' D' U,A i gv F' D' U↔(Cx w 8 (Rk r bf bt w fv bound st) F D S s.v smZ (smA s gv (.str s.text) tg ex el dv bv) F' D' U∧Gw 1 S.length w F' D' (((s.labels.take i).map (rren r sc)).map .str) gv U):=⟨_,fun _ _ _ _ _=>Iff.rfl⟩;refine qaz (IvW (A s.labels.length) fun _=>[(0,.ptr w 0 0 1),(2,.sl b ((Scs.flat sc).map bndV)),(4,.ptr S.length 0 0 1),(6,.ptr (S.length+1) 0 0 1),(7,.ptr (S.length+2) 0 0 1)]) ?_ ?_
  ·refine qar (IvL s.labels.length A fun i _=>[(8,.int .i64 i),(0,.ptr w 0 0 1),(2,.sl b ((Scs.flat sc).map bndV)),(4,.ptr S.length 0 0 1),(6,.ptr (S.length+1) 0 0 1),(7,.ptr (S.length+2) 0 0 1)]) s.labels.length _ ?_ ⟨0,_,F,D,by simp,by omega,(hA _ _ _ _ _).2 ⟨C0,Gw.nil _ _ _ _ _ _⟩,rfl⟩ ?_
   ·exact Env.so (by simp)
   rintro j e U ⟨i,gv,F1,D1,rfl,hi,hI,rfl⟩;obtain ⟨hC,hg⟩:=(hA _ _ _ _ _).1 hI;have hn:ldS U (.ptr S.length 0 0 1) none=some (.sl false (s.labels.map .str)):=by simp[ldS,hC.b0]
   by_cases hlt:i<s.labels.length
   ·have hia:=qc4 hlt false U;have hgv:ldS U (.ptr (S.length+2) 0 0 1) none=some gv:=by simp[ldS,hC.b2]
    have hfs:fits 1 [V.str (rren r sc s.labels[i])]=true:=rfl;obtain ⟨gv',U2,ha,hg2,k2,s2,a5,a6⟩:=hg.app1F (fm bound st) (bytes:=16) (b:=true) (y:=.str (rren r sc s.labels[i])) hC.rk hC.st hfs (by simp;omega);have C2:=hC.app (gv:=gv) k2 s2 a5 fun k ys wr hk'=>hg.neC hk' (by omega)
    have hst:=qb8 (j:=0) C2.b2 hg2.flatV (by simp) (by simp);simp only[List.take,List.drop,qt8,qut] at hst;have C3:=C2.put (fm bound st) (smA s gv' (.str s.text) tg ex el dv bv);have hg3:=hg2.setC C2.b2 (by omega) (.arr [smA s gv' (.str s.text) tg ex el dv bv] 8 1);have hm:((s.labels.take (i+1)).map (rren r sc)).map V.str=((s.labels.take i).map (rren r sc)).map .str++[.str (rren r sc s.labels[i])]:=by rw[map_take _ _ _ hlt,quh];rfl
    rw[←hm] at hg3;simp[hn,hlt,hgv,hia,qbb];refine qba (qg1 r bf bt w fv bound st F1 D1 U hC.rk b sc ok.nd (by omega) s.labels[i]) ?_;simp[hfs,ha,hst];simp[dend,qbj,qbw,hgv];simp[qaL (n:=(i:Int)+1)];refine ⟨_,?_,_,?_,i+1,gv',F1,D1,rfl,by omega,(hA _ _ _ _ _).2 ⟨C3,hg3⟩,rfl⟩
    ·omega
    ·exact Env.so (by simp)
   ·have:i=s.labels.length:=by omega
    subst this;simp[hn];refine ⟨gv,F1,D1,hI,?_⟩;exact Env.so (by simp)
  rintro e U ⟨gv,F0,D0,hI,hsub⟩;obtain ⟨hC,hg⟩:=(hA _ _ _ _ _).1 hI;rw[qun] at hg;show WP prog (.seq _ _) _ e U;rw[qjO];obtain ⟨M,hM⟩:∃A:V→(Nat→Prop)→(Nat→Prop)→St→Prop,∀lv F1 D1 U,A lv F1 D1 U↔(s.kind≠7∧s.kind≠8∧Cx w 8 (Rk r bf bt w fv bound (if s.kind=6 then qbl r sc s.text st else st)) F D S s.v smZ (smA s lv (.str (if s.kind=6 then qb4 r sc s.text else s.text)) tg ex el dv bv) F1 D1 U∧Gw 1 S.length w F1 D1 ((s.labels.map (rren r sc)).map .str) lv U):=⟨_,fun _ _ _ _=>Iff.rfl⟩;refine qo5 (IvW M fun _=>[(0,.ptr w 0 0 1),(2,.sl b ((Scs.flat sc).map bndV)),(4,.ptr S.length 0 0 1),(6,.ptr (S.length+1) 0 0 1),(7,.ptr (S.length+2) 0 0 1)]) ?_ ?_
  ·have g0:e.get 0=_:=hsub 0 _ rfl;have g2:e.get 2=_:=hsub 2 _ rfl;have g4:e.get 4=_:=hsub 4 _ rfl;have g6:e.get 6=_:=hsub 6 _ rfl;have g7:e.get 7=_:=hsub 7 _ rfl;have hkd:ldS U (.ptr S.length 0 1 1) none=some (.int .i64 s.kind):=by simp[ldS,hC.b0]
   have htx:ldS U (.ptr S.length 0 2 1) none=some (.str s.text):=by simp[ldS,hC.b0]
   have hbd:∀{bo s' y F' D' U},Cx w 8 (Rk r bf bt w fv bo s') F D S s.v smZ y F' D' U→ldS U (.ptr S.length 0 7 1) none=some (.sl false (s.body.map Sm.v)):=fun hC=>by simp[ldS,hC.b0]
   have hdd:∀{bo s' y F' D' U},Cx w 8 (Rk r bf bt w fv bo s') F D S s.v smZ y F' D' U→ldS U (.ptr S.length 0 6 1) none=some (.sl false (s.decls.map De.v)):=fun hC=>by simp[ldS,hC.b0]
   by_cases h7:s.kind=7
   ·rw[if_pos h7,if_pos h7,if_pos h7];rw[if_pos h7] at hbo;simp[g4,hkd,h7];obtain ⟨B,hB⟩:∃A:Nat→V→(Nat→Prop)→(Nat→Prop)→St→Prop,∀i hv F' D' U,A i hv F' D' U↔(Cx w 8 (Rk r bf bt w fv bound st) F D S s.v smZ (smA s gv (.str s.text) tg ex el dv bv) F' D' U∧Gw 1 S.length w F' D' ((s.labels.map (rren r sc)).map .str) gv U∧Gw 1 S.length w F' D' (((s.decls.take i).flatMap De.names).map .str) hv U∧qfn hv gv):=⟨_,fun _ _ _ _ _=>Iff.rfl⟩;refine qaz (IvW (B s.decls.length) fun hv=>[(9,hv),(0,.ptr w 0 0 1),(2,.sl b ((Scs.flat sc).map bndV)),(4,.ptr S.length 0 0 1),(6,.ptr (S.length+1) 0 0 1),(7,.ptr (S.length+2) 0 0 1)]) ?_ ?_
    ·refine qar (IvL s.decls.length B fun i hv=>[(10,.int .i64 i),(9,hv),(0,.ptr w 0 0 1),(2,.sl b ((Scs.flat sc).map bndV)),(4,.ptr S.length 0 0 1),(6,.ptr (S.length+1) 0 0 1),(7,.ptr (S.length+2) 0 0 1)]) s.decls.length _ ?_ ⟨0,_,F0,D0,by simp,by omega,(hB _ _ _ _ _).2 ⟨hC,hg,Gw.nil _ _ _ _ _ _,fun l a b c hh=>V.noConfusion hh⟩,rfl⟩ ?_
     ·repeat' first|exact Env.sub_nil _|refine Env.sub_cons (by simp[g0,g2,g4,g6,g7]) ?_
     rintro j e U ⟨i,hv,F0,D0,rfl,hi,hI,rfl⟩;obtain ⟨hC,hg,hh,hdf⟩:=(hB _ _ _ _ _).1 hI;have hn:=hdd hC;by_cases hlt:i<s.decls.length
     ·have hia:=iaDe hlt false U;obtain ⟨t1,t2⟩:=qkD s.decls i hlt;obtain ⟨hv',U2,ha,hh2,k2,s2,a5,a6⟩:=hh.appF (fm bound st) (bytes:=16) (x:=.sl false (s.decls[i].names.map .str)) hC.rk hC.st (qcd _ _ _) (qe3 _) (by rw[qt2,qt2];omega);have C2:=hC.app (gv:=hv) k2 s2 a5 fun k ys wr hk'=>hh.neC hk' (by omega)
      have hg':=hg.other fun l o ho a b c hv'=>a5 l o ho fun a' b' c' hh=>hdf l a' b' c' hh a b c hv'
      rw[←quh,←t1] at hh2;have glt':=hg.lt
      have df2:qfn hv' gv:=fun l a b c hh a' b' c' hg=>by
       rcases a6 l a b c hh with h1|h1
       ·exact hdf l _ _ _ h1 _ _ _ hg
       ·have:=glt' l _ _ _ hg;omega
      simp[hn,hlt,hia,ha,qaL (n:=(i:Int)+1)];refine ⟨_,?_,_,?_,i+1,hv',F0,D0,rfl,by omega,(hB _ _ _ _ _).2 ⟨C2,hg',hh2,df2⟩,rfl⟩
      ·omega
      ·exact Env.so (by simp)
     ·have:i=s.decls.length:=by omega
      subst this;simp[hn];refine ⟨hv,F0,D0,hI,?_⟩;exact Env.so (by simp)
    clear hsub g0 g2 g4 g6 g7 hkd htx;rintro e U1 ⟨hv,F1,D1,hI,hsub⟩;obtain ⟨C1,hg1,hh1,hdf⟩:=(hB _ _ _ _ _).1 hI;rw[qun] at hh1;have g0:e.get 0=_:=hsub 0 _ rfl;have g2:e.get 2=_:=hsub 2 _ rfl;have g4:e.get 4=_:=hsub 4 _ rfl;have g6:e.get 6=_:=hsub 6 _ rfl;have g7:e.get 7=_:=hsub 7 _ rfl;have g9:e.get 9=_:=hsub 9 _ rfl;simp[g0,g2,g4,g9,hbd C1];refine qan (ql7 s.body (by omega) false w _ (fm bound st) F1 D1 U1 C1.rk) ?_;rintro v U2 ⟨rfl,F2,D2,k2,s2⟩;have C2:=C1.call k2 s2;have hg2:=hg1.step s2;have hh2:=hh1.step s2;have hnl:=qff s.decls;have hll:=qc6 s.body;obtain ⟨hv',U3,ha,hh3,k3,s3,a5,a6⟩:=hh2.appF (fm bound st) (bytes:=16) (x:=.sl false ((qak s.body).map .str)) C2.rk C2.st (qcd _ _ _) (qe3 _) (by rw[qt2,qt2];omega);have C3:=C2.app (gv:=hv) k3 s3 a5 fun k ys wr hk'=>hh2.neC hk' (by omega)
    have hg3:=hg2.other fun l o ho a b c hv'=>a5 l o ho fun a' b' c' hh=>hdf l a' b' c' hh a b c hv'
    rw[←quh] at hh3;obtain ⟨names,hnames⟩:∃names,names=qag s.decls s.body:=⟨_,rfl⟩;have hn':s.decls.flatMap De.names++qak s.body=names:=by rw[hnames];rfl
    rw[hn'] at hh3;rw[←hnames] at hbo ⊢;have hnl2:names.length≤8000:=by rw[←hn',qub];omega
    simp[ha];refine qan (qiu r bf bt w fv bound st F2 D2 U3 C3.rk b sc names hv' hh3.nr (by omega) (by omega)) ?_;rintro v U4 ⟨rfl,F4,D4,k4,s4⟩;have C4:=C3.call k4 s4;have hg4:=hg3.step s4;obtain ⟨inner,hinner⟩:∃inner,inner=qad names bound.length::sc:=⟨_,rfl⟩;have hbl1:(bound++nms names).length=bound.length+(qad names bound.length).length:=by rw[qub,qfs _ bound.length]
    have okw:Okw (bound++nms names) st inner (De.nbl s.decls+Sm.nbl s.body) (qaB (s.decls.map Pa.de)+qaB (s.body.map Pa.st)):=by
     rw[hinner];exact Okw.enter (nb:=(qad names 0).length+(De.nbl s.decls+Sm.nbl s.body)) ⟨ok.nd,hof,by omega,by omega⟩ names (qt1 _)
    rw[←hinner];have hfi:=okw.fl;have hbi:=okw.bo;have hst4:=qb8 (j:=6) (v:=.sl true []) C4.b2 ⟨rfl,rfl,rfl⟩ (by simp) (by simp);simp only[List.take,List.drop,qt8,qut] at hst4;have C5:=C4.put (fm _ _) (smA s gv (.str s.text) tg ex el (.sl true []) bv);have hg5:=hg4.setC C4.b2 (by omega) (.arr [smA s gv (.str s.text) tg ex el (.sl true []) bv] 8 1);simp[g7,hst4];obtain ⟨E,hE⟩:∃A:Nat→V→(Nat→Prop)→(Nat→Prop)→St→Prop,∀i xv F5 D5 U,A i xv F5 D5 U↔(Cx w 8 (Rk r bf bt w fv (bound++nms names++De.bnl (s.decls.take i)) (De.rsl r inner sc (bound++nms names).length st (s.decls.take i))) F D S s.v smZ (smA s gv (.str s.text) tg ex el xv bv) F5 D5 U∧Gw 1 S.length w F5 D5 ((s.labels.map (rren r sc)).map .str) gv U∧Gw 7 S.length w F5 D5 ((De.rwl r inner sc (bound++nms names).length (s.decls.take i)).map De.v) xv U):=⟨_,fun _ _ _ _ _=>Iff.rfl⟩;refine qaz (IvW (E s.decls.length) fun _=>[(11,.sl false ((Scs.flat inner).map bndV)),(0,.ptr w 0 0 1),(4,.ptr S.length 0 0 1),(6,.ptr (S.length+1) 0 0 1),(7,.ptr (S.length+2) 0 0 1)]) ?_ ?_
    ·refine qar (IvL s.decls.length E fun i _=>[(12,.int .i64 i),(11,.sl false ((Scs.flat inner).map bndV)),(0,.ptr w 0 0 1),(2,.sl b ((Scs.flat sc).map bndV)),(4,.ptr S.length 0 0 1),(6,.ptr (S.length+1) 0 0 1),(7,.ptr (S.length+2) 0 0 1)]) s.decls.length _ ?_ ⟨0,_,F4,D4,by simp,by omega,(hE _ _ _ _ _).2 ⟨by simpa[De.bnl,De.rsl] using C5,hg5,Gw.nil _ _ _ _ _ _⟩,rfl⟩ ?_
     ·repeat' first|exact Env.sub_nil _|refine Env.sub_cons (by simp[g0,g2,g4,g6,g7]) ?_
     rintro j e U ⟨i,xv,F5,D5,rfl,hi,hI,rfl⟩;obtain ⟨hC,hg,hx⟩:=(hE _ _ _ _ _).1 hI;have hn:=hdd hC;by_cases hlt:i<s.decls.length
     ·have hia:=iaDe hlt false U;obtain ⟨n1,n2⟩:=qmc s.decls i hlt;have hst:=qcm Pa.de s.decls i hlt;have hrl:=De.rsl_len r (s.decls.take i) inner sc (bound++nms names).length st;have hbli:(bound++nms names++De.bnl (s.decls.take i)).length=(bound++nms names).length+De.nbl (s.decls.take i):=by rw[qub,De.bnl_length]
      have ht:s.decls.take (i+1)=s.decls.take i++[s.decls[i]]:=by rw[qt9,qtX hlt];rfl
      have q:=qkO r ho bf bt w fv s.decls[i] (IHd _ (qt7 hlt)) (by omega) _ _ F5 D5 U b false sc inner hC.rk ⟨okw.nd,by omega,by omega,by have:=okw.fr;omega⟩ ok.nd (by omega);rw[hbli] at q;obtain ⟨d',hd'⟩:∃d',d'=De.rw r inner sc ((bound++nms names).length+De.nbl (s.decls.take i)) s.decls[i]:=⟨_,rfl⟩;rw[←hd'] at q;have hxv:ldS U (.ptr (S.length+2) 0 6 1) none=some xv:=by simp[ldS,hC.b2]
      simp[hn,hlt,hia,hxv];obtain ⟨F',D',U',r1,r2⟩:=hC.rk.real (bound++nms names++De.bnl (s.decls.take i)++s.decls[i].bn) (De.rs r inner sc ((bound++nms names).length+De.nbl (s.decls.take i)) (De.rsl r inner sc (bound++nms names).length st (s.decls.take i)) s.decls[i]);refine qcw q ⟨_,U',rfl,F',D',r1,r2⟩ ?_;rintro v U2 ⟨rfl,F6,D6,k6,s6⟩;have C6:=hC.call k6 s6;have hg6:=hg.step s6;have hx6:=hx.step s6;obtain ⟨xv',U3,ha,hx7,k7,s7,a5,a6⟩:=hx6.app1F (fm _ _) (bytes:=120) (b:=true) C6.rk C6.st (De.fits1 d') (by rw[qt2,qjh,quW];omega);have C7:=C6.app (gv:=xv) k7 s7 a5 fun k ys wr hk'=>hx6.neC hk' (by omega)
      have hg7:=hg6.other fun l o ho a b c hv'=>a5 l o ho fun a' b' c' hh=>(Gx.ne (.inr hx6) (.inr hg6) (by omega)) l a' b' c' a b c hh hv'
      have hstx:=qb8 (j:=6) C7.b2 hx7.flatV (by simp) (by simp);simp only[List.take,List.drop,qt8,qut] at hstx;have C8:=C7.put (fm _ _) (smA s gv (.str s.text) tg ex el xv' bv);have hg8:=hg7.setC C7.b2 (by omega) (.arr [smA s gv (.str s.text) tg ex el xv' bv] 8 1);have hx8:=hx7.setC C7.b2 (by omega) (.arr [smA s gv (.str s.text) tg ex el xv' bv] 8 1)
      have hn1:(De.rwl r inner sc (bound++nms names).length (s.decls.take i)).map De.v++[d'.v]=(De.rwl r inner sc (bound++nms names).length (s.decls.take (i+1))).map De.v:=by
       rw[ht,De.rwl_append,quh,hd'];rfl
      have hn2:De.rs r inner sc ((bound++nms names).length+De.nbl (s.decls.take i)) (De.rsl r inner sc (bound++nms names).length st (s.decls.take i)) s.decls[i]=De.rsl r inner sc (bound++nms names).length st (s.decls.take (i+1)):=by
       rw[ht,De.rsl_append];rfl
      have hn3:bound++nms names++De.bnl (s.decls.take i)++s.decls[i].bn=bound++nms names++De.bnl (s.decls.take (i+1)):=by
       rw[ht,De.bnl_append,qt5 (bound++nms names)];simp[De.bnl]
      rw[hn1] at hx8;rw[hn2,hn3] at C8;have hxv2:ldS U2 (.ptr (S.length+2) 0 6 1) none=some xv:=by simp[ldS,C6.b2]
      simp[De.fits1,ha,hstx];simp[dend,qbj,qbw,hxv,hxv2];simp[qaL (n:=(i:Int)+1)];refine ⟨_,?_,_,?_,i+1,xv',F6,D6,rfl,by omega,(hE _ _ _ _ _).2 ⟨C8,hg8,hx8⟩,rfl⟩
      ·omega
      ·exact Env.so (by simp)
     ·have:i=s.decls.length:=by omega
      subst this;simp[hn];refine ⟨xv,F5,D5,hI,?_⟩;exact Env.so (by simp)
    clear hsub g0 g2 g4 g6 g7 g9;rintro e U5 ⟨xv,F5,D5,hI,hsub⟩;obtain ⟨C5,hg5,hx5⟩:=(hE _ _ _ _ _).1 hI;rw[qun] at C5 hx5;have g0:e.get 0=_:=hsub 0 _ rfl;have g4:e.get 4=_:=hsub 4 _ rfl;have g6:e.get 6=_:=hsub 6 _ rfl;have g7:e.get 7=_:=hsub 7 _ rfl;have g11:e.get 11=_:=hsub 11 _ rfl;have hrl:=De.rsl_len r s.decls inner sc (bound++nms names).length st;have hbld:(bound++nms names++De.bnl s.decls).length=(bound++nms names).length+De.nbl s.decls:=by rw[qub,De.bnl_length]
    have q:=qgh r bf bt w fv s.body IHb hbl _ _ F5 D5 U5 false false inner C5.rk ⟨okw.nd,by omega,by omega,by have:=okw.fr;omega⟩;rw[hbld,hbl1] at q;simp[g0,g4,g11,hbd C5];refine qan q ?_;rintro v U6 ⟨rfl,F6,D6,k6,s6⟩;have C6:=C5.call k6 s6;have hst:=qb8 (j:=7) (v:=.sl false ((Sm.rwl r inner (bound.length+(qad names bound.length).length+De.nbl s.decls) s.body).map Sm.v)) C6.b2 ⟨rfl,rfl,rfl⟩ (by simp) (by simp);simp only[List.take,List.drop,qt8,qut] at hst;have C7:=C6.put (fm _ _) (smA s gv (.str s.text) tg ex el xv (.sl false ((Sm.rwl r inner (bound.length+(qad names bound.length).length+De.nbl s.decls) s.body).map Sm.v)));have hg7:=(hg5.step s6).setC C6.b2 (by omega) (.arr [smA s gv (.str s.text) tg ex el xv (.sl false ((Sm.rwl r inner (bound.length+(qad names bound.length).length+De.nbl s.decls) s.body).map Sm.v))] 8 1);have hx7:=(hx5.step s6).setC C6.b2 (by omega) (.arr [smA s gv (.str s.text) tg ex el xv (.sl false ((Sm.rwl r inner (bound.length+(qad names bound.length).length+De.nbl s.decls) s.body).map Sm.v))] 8 1);subst htg hex hel;obtain ⟨p1,U9,p2,p3⟩:=fin (s.labels.map (rren r sc)) s.text s.targets s.exps s.elems _ _ gv _ xv C7 (.inr hg7) (.inl ⟨false,rfl⟩) (.inr hx7);have e1:bound++nms names++De.bnl s.decls++Sm.bnl s.body=bound++(nms names++De.bnl s.decls++Sm.bnl s.body):=by simp only[qt5]
    rw[e1] at p3;simp[g6,g7,hst,p1,p2];rw[h7,hbl1] at p3;simp only[qt5] at p3 ⊢;exact p3 _ g6
   rw[if_neg h7,if_neg h7,if_neg h7];rw[if_neg h7] at hbo;by_cases h8:s.kind=8
   ·rw[if_pos h8,if_pos h8,if_pos h8];rw[if_pos h8] at hbo;simp[g0,g2,g4,hkd,h8,hbd hC];refine qan (qeA r bf bt w fv s.body IHb (by omega) bound st F0 D0 U false b sc hC.rk ⟨ok.nd,hof,hbo,by omega⟩) ?_;rintro v U1 ⟨rfl,F1,D1,k1,s1⟩;have C1:=hC.call k1 s1;obtain ⟨bd,hbd'⟩:∃bd,bd=Sm.rwl r (qad (qak s.body) bound.length::sc) (bound.length+(qad (qak s.body) bound.length).length) s.body:=⟨_,rfl⟩;rw[←hbd'];have hst:=qb8 (j:=7) (v:=.sl false (bd.map Sm.v)) C1.b2 ⟨rfl,rfl,rfl⟩ (by simp) (by simp);simp only[List.take,List.drop,qt8,qut] at hst;have C2:=C1.put (fm _ _) (smA s gv (.str s.text) tg ex el dv (.sl false (bd.map Sm.v)));have hg2:=(hg.step s1).setC C1.b2 (by omega) (.arr [smA s gv (.str s.text) tg ex el dv (.sl false (bd.map Sm.v))] 8 1);subst htg hex hel hdv;obtain ⟨p1,U9,p2,p3⟩:=fin (s.labels.map (rren r sc)) s.text s.targets s.exps s.elems s.decls bd gv _ _ C2 (.inr hg2) (.inl ⟨false,rfl⟩) (.inl ⟨false,rfl⟩);simp[g6,g7,hst,p1,p2]
    first|exact p3 _ g6|(rw[h8] at p3;exact p3 _ g6)
   by_cases h6:s.kind=6
   ·simp[g0,g2,g4,hkd,h6,htx];refine qan (qnr r ho bf bt w fv bound st F0 D0 U hC.rk b sc ok.nd (by omega) s.text (by omega)) ?_;rintro v U1 ⟨rfl,F1,D1,k1,s1⟩;have C1:=hC.call k1 s1;have hst:=qb8 (j:=2) (v:=.str (qb4 r sc s.text)) C1.b2 ⟨rfl,rfl,rfl⟩ (by simp) (by simp);simp only[List.take,List.drop,qt8,qut] at hst;have C2:=C1.put (fm _ _) (smA s gv (.str (qb4 r sc s.text)) tg ex el dv bv);have hg2:=(hg.step s1).setC C1.b2 (by omega) (.arr [smA s gv (.str (qb4 r sc s.text)) tg ex el dv bv] 8 1);simp[g7,hst];refine ⟨gv,F1,D1,(hM _ _ _ _).2 ⟨h7,h8,by rw[if_pos h6,if_pos h6];exact C2,hg2⟩,?_⟩
    repeat' first|exact Env.sub_nil _|refine Env.sub_cons (by simp[g0,g2,g4,g6,g7]) ?_
   ·simp[g4,hkd,h7,h8,h6];refine ⟨gv,F0,D0,(hM _ _ _ _).2 ⟨h7,h8,by rw[if_neg h6,if_neg h6];exact hC,hg⟩,?_⟩
    repeat' first|exact Env.sub_nil _|refine Env.sub_cons (by simp[g0,g2,g4,g6,g7]) ?_
  clear hsub hC hg hI;rintro e U ⟨gv,F1,D1,hI,hsub⟩;obtain ⟨h7,h8,C1,hg1⟩:=(hM _ _ _ _).1 hI;rw[if_neg h7,if_neg h8] at hbo;rw[if_neg h7,if_neg h7,if_neg h7,if_neg h8,if_neg h8,if_neg h8];obtain ⟨st1,hst1⟩:∃st1,st1=if s.kind=6 then qbl r sc s.text st else st:=⟨_,rfl⟩
  have hst1l:st1.free.length≤st.free.length+1:=by
   rw[hst1];split
   ·exact qcS r sc s.text st
   ·omega
  obtain ⟨tx,htx⟩:∃tx,tx=if s.kind=6 then qb4 r sc s.text else s.text:=⟨_,rfl⟩
  rw[←hst1] at C1 ⊢;rw[←htx] at C1 ⊢;have g0:e.get 0=_:=hsub 0 _ rfl;have g2:e.get 2=_:=hsub 2 _ rfl;have g4:e.get 4=_:=hsub 4 _ rfl;have g6:e.get 6=_:=hsub 6 _ rfl;have g7:e.get 7=_:=hsub 7 _ rfl;have ldt:ldS U (.ptr S.length 0 3 1) none=some (.sl false (s.targets.map Ex.v)):=by simp[ldS,C1.b0]
  simp[g0,g2,g4,ldt];refine qan (qpJ r ho bf bt w fv s.targets (by omega) bound st1 F1 D1 U false b sc C1.rk ok.nd (by omega) (by omega)) ?_;rintro v U2 ⟨rfl,F2,D2,k2,s2⟩;have C2:=C1.call k2 s2;obtain ⟨tg1,htg1⟩:∃x,x=V.sl false ((Ex.rwl r sc s.targets).map Ex.v):=⟨_,rfl⟩;obtain ⟨st2,hst2⟩:∃st2,st2=tgS r sc st1 s.targets:=⟨_,rfl⟩;have hst2l:=qlF r sc st1 s.targets;rw[←hst2] at C2 hst2l ⊢;rw[←htg1];have hstt:=qb8 (j:=3) (v:=tg1) C2.b2 (by rw[htg1];exact ⟨rfl,rfl,rfl⟩) (by simp) (by simp);simp only[List.take,List.drop,qt8,qut] at hstt;have C3:=C2.put (fm _ _) (smA s gv (.str tx) tg1 ex el dv bv);have hg3:=(hg1.step s2).setC C2.b2 (by omega) (.arr [smA s gv (.str tx) tg1 ex el dv bv] 8 1);obtain ⟨U3,hU3⟩:∃U3,U3=U2.set (S.length+2) (.arr [smA s gv (.str tx) tg1 ex el dv bv] 8 1):=⟨_,rfl⟩;rw[←hU3] at hstt C3 hg3;have hste:=qb8 (j:=5) (v:=.sl true []) C3.b2 ⟨rfl,rfl,rfl⟩ (by simp) (by simp);simp only[List.take,List.drop,qt8,qut] at hste;have C4:=C3.put (fm _ _) (smA s gv (.str tx) tg1 ex (.sl true []) dv bv);have hg4:=hg3.setC C3.b2 (by omega) (.arr [smA s gv (.str tx) tg1 ex (.sl true []) dv bv] 8 1);simp[g7,hstt,hste];obtain ⟨E,hE⟩:∃A:Nat→V→(Nat→Prop)→(Nat→Prop)→St→Prop,∀i xv F5 D5 U,A i xv F5 D5 U↔(Cx w 8 (Rk r bf bt w fv bound (El.rsl r sc st2 (s.elems.take i))) F D S s.v smZ (smA s gv (.str tx) tg1 ex xv dv bv) F5 D5 U∧Gw 1 S.length w F5 D5 ((s.labels.map (rren r sc)).map .str) gv U∧Gw 2 S.length w F5 D5 (((s.elems.take i).map (El.rw r sc)).map El.v) xv U):=⟨_,fun _ _ _ _ _=>Iff.rfl⟩;refine qaz (IvW (E s.elems.length) fun _=>[(0,.ptr w 0 0 1),(2,.sl b ((Scs.flat sc).map bndV)),(4,.ptr S.length 0 0 1),(6,.ptr (S.length+1) 0 0 1),(7,.ptr (S.length+2) 0 0 1)]) ?_ ?_
  ·refine qar (IvL s.elems.length E fun i _=>[(13,.int .i64 i),(0,.ptr w 0 0 1),(2,.sl b ((Scs.flat sc).map bndV)),(4,.ptr S.length 0 0 1),(6,.ptr (S.length+1) 0 0 1),(7,.ptr (S.length+2) 0 0 1)]) s.elems.length _ ?_ ⟨0,_,F2,D2,by simp,by omega,(hE _ _ _ _ _).2 ⟨C4,hg4,Gw.nil _ _ _ _ _ _⟩,rfl⟩ ?_
   ·repeat' first|exact Env.sub_nil _|refine Env.sub_cons (by simp[g0,g2,g4,g6,g7]) ?_
   rintro j e U ⟨i,xv,F5,D5,rfl,hi,hI,rfl⟩;obtain ⟨hC,hg,hx⟩:=(hE _ _ _ _ _).1 hI;have hn:ldS U (.ptr S.length 0 5 1) none=some (.sl false (s.elems.map El.v)):=by simp[ldS,hC.b0]
   by_cases hlt:i<s.elems.length
   ·have hia:=fun U=>iaEl hlt false U
    obtain ⟨y,hy⟩:∃y,y=s.elems[i]:=⟨_,rfl⟩;rw[←hy] at hia;have hst:=qcm Pa.el s.elems i hlt;rw[←hy] at hst;have hrl:=El.rsl_len r sc (s.elems.take i) st2;have hys:(Pa.el y).size=1+qaB (y.exps.map Pa.ex):=by rw[Pa.size_eq];rfl
    have ht:s.elems.take (i+1)=s.elems.take i++[y]:=by rw[qt9,qtX hlt,hy];rfl
    have q:=qfe r ho bf bt w fv y.exps (by omega) bound _ F5 D5 U false b sc hC.rk ok.nd (by omega) (by omega);have hxv:ldS U (.ptr (S.length+2) 0 5 1) none=some xv:=by simp[ldS,hC.b2]
    simp[hn,hlt,hia,hxv];obtain ⟨F',D',U',r1,r2⟩:=hC.rk.real bound (Ex.rsl r sc (El.rsl r sc st2 (s.elems.take i)) y.exps);refine qcw q ⟨_,U',rfl,F',D',r1,r2⟩ ?_;rintro v U2 ⟨rfl,F6,D6,k6,s6⟩;have C6:=hC.call k6 s6;have hg6:=hg.step s6;have hx6:=hx.step s6;obtain ⟨y',hy'⟩:∃y',y'=El.rw r sc y:=⟨_,rfl⟩;obtain ⟨xv',U3,ha,hx7,k7,s7,a5,a6⟩:=hx6.app1F (fm _ _) (bytes:=32) (b:=true) C6.rk C6.st (El.fits1 y') (by simp;omega);have C7:=C6.app (gv:=xv) k7 s7 a5 fun k ys wr hk'=>hx6.neC hk' (by omega)
    have hg7:=hg6.other fun l o ho a b c hv'=>a5 l o ho fun a' b' c' hh=>(Gx.ne (.inr hx6) (.inr hg6) (by omega)) l a' b' c' a b c hh hv'
    have hstx:=qb8 (j:=5) C7.b2 hx7.flatV (by simp) (by simp);simp only[List.take,List.drop,qt8,qut] at hstx;have C8:=C7.put (fm _ _) (smA s gv (.str tx) tg1 ex xv' dv bv);have hg8:=hg7.setC C7.b2 (by omega) (.arr [smA s gv (.str tx) tg1 ex xv' dv bv] 8 1);have hx8:=hx7.setC C7.b2 (by omega) (.arr [smA s gv (.str tx) tg1 ex xv' dv bv] 8 1)
    have hn1:((s.elems.take i).map (El.rw r sc)).map El.v++[y'.v]=((s.elems.take (i+1)).map (El.rw r sc)).map El.v:=by
     rw[ht,quh,quh,hy'];rfl
    have hn2:Ex.rsl r sc (El.rsl r sc st2 (s.elems.take i)) y.exps=El.rsl r sc st2 (s.elems.take (i+1)):=by
     rw[ht,El.rsl_append];rfl
    rw[hn1] at hx8;rw[hn2] at C8
    have hbu:qal (.agg [.int .i64 0,.sl true []]) [(0,1,.int .i64 y.kind),(1,1,.sl false ((Ex.rwl r sc y.exps).map Ex.v))]=some y'.v:=by
     rw[hy'];simp[qal,qac,El.v,El.rw]
    have hxv2:ldS U2 (.ptr (S.length+2) 0 5 1) none=some xv:=by simp[ldS,C6.b2]
    have hn2':ldS U2 (.ptr S.length 0 5 1) none=some (.sl false (s.elems.map El.v)):=by simp[ldS,C6.b0]
    simp[qaf,hbu,El.fits1,ha,hstx];simp[dend,qbj,qbw,hxv,hxv2,hn,hn2',hia];simp[qaL (n:=(i:Int)+1)];refine ⟨_,?_,_,?_,i+1,xv',F6,D6,rfl,by omega,(hE _ _ _ _ _).2 ⟨C8,hg8,hx8⟩,rfl⟩
    ·omega
    ·exact Env.so (by simp)
   ·have:i=s.elems.length:=by omega
    subst this;simp[hn];refine ⟨xv,F5,D5,hI,?_⟩;exact Env.so (by simp)
  clear hsub g0 g2 g4 g6 g7;rintro e U5 ⟨xv,F5,D5,hI,hsub⟩;obtain ⟨C5,hg5,hx5⟩:=(hE _ _ _ _ _).1 hI;rw[qun] at C5 hx5;have g0:e.get 0=_:=hsub 0 _ rfl;have g2:e.get 2=_:=hsub 2 _ rfl;have g4:e.get 4=_:=hsub 4 _ rfl;have g6:e.get 6=_:=hsub 6 _ rfl;have g7:e.get 7=_:=hsub 7 _ rfl;have hrl:=El.rsl_len r sc s.elems st2;have ldx:ldS U5 (.ptr S.length 0 4 1) none=some (.sl false (s.exps.map Ex.v)):=by simp[ldS,C5.b0]
  simp[g0,g2,g4,ldx];refine qan (qfe r ho bf bt w fv s.exps (by omega) bound _ F5 D5 U5 false b sc C5.rk ok.nd (by omega) (by omega)) ?_;rintro v U6 ⟨rfl,F6,D6,k6,s6⟩;have C6:=C5.call k6 s6;have hrl6:=Ex.rsl_len r sc s.exps (El.rsl r sc st2 s.elems);obtain ⟨ex1,hex1⟩:∃x,x=V.sl false ((Ex.rwl r sc s.exps).map Ex.v):=⟨_,rfl⟩;rw[←hex1];have hstx:=qb8 (j:=4) (v:=ex1) C6.b2 (by rw[hex1];exact ⟨rfl,rfl,rfl⟩) (by simp) (by simp);simp only[List.take,List.drop,qt8,qut] at hstx;have C7:=C6.put (fm _ _) (smA s gv (.str tx) tg1 ex1 xv dv bv);have hg7:=(hg5.step s6).setC C6.b2 (by omega) (.arr [smA s gv (.str tx) tg1 ex1 xv dv bv] 8 1);have hx7:=(hx5.step s6).setC C6.b2 (by omega) (.arr [smA s gv (.str tx) tg1 ex1 xv dv bv] 8 1);have ldb:ldS (U6.set (S.length+2) (.arr [smA s gv (.str tx) tg1 ex1 xv dv bv] 8 1)) (.ptr S.length 0 7 1) none=some (.sl false (s.body.map Sm.v)):=by simp only[ldS,C7.b0];simp
  simp[g0,g2,g4,g7,hstx,ldb];refine qan (qf4 r bf bt w fv s.body IHb (by omega) bound _ F6 D6 _ false b sc C7.rk ⟨ok.nd,hof,hbo,by omega⟩) ?_;rintro v U8 ⟨rfl,F8,D8,k8,s8⟩;have C8:=C7.call k8 s8;have hst:=qb8 (j:=7) (v:=.sl false ((Sm.rw1 r sc bound.length s.body).map Sm.v)) C8.b2 ⟨rfl,rfl,rfl⟩ (by simp) (by simp);simp only[List.take,List.drop,qt8,qut] at hst;have C9:=C8.put (fm _ _) (smA s gv (.str tx) tg1 ex1 xv dv (.sl false ((Sm.rw1 r sc bound.length s.body).map Sm.v)));have hg9:=(hg7.step s8).setC C8.b2 (by omega) (.arr [smA s gv (.str tx) tg1 ex1 xv dv (.sl false ((Sm.rw1 r sc bound.length s.body).map Sm.v))] 8 1);have hx9:=(hx7.step s8).setC C8.b2 (by omega) (.arr [smA s gv (.str tx) tg1 ex1 xv dv (.sl false ((Sm.rw1 r sc bound.length s.body).map Sm.v))] 8 1);subst htg1 hex1 hdv;obtain ⟨p1,U9,p2,p3⟩:=fin (s.labels.map (rren r sc)) tx (Ex.rwl r sc s.targets) (Ex.rwl r sc s.exps) (s.elems.map (El.rw r sc)) s.decls _ gv xv _ C9 (.inr hg9) (.inr hx9) (.inl ⟨false,rfl⟩);simp[g6,g7,hst,p1,p2];exact p3 _ g6
theorem qo4(r:Rp)(ho:RpOk r)(bf bt:Bool)(w:Nat)(fv:V)(s:Sm)(hsz:(Pa.st s).size≤4000)(st:Rst)(F D:Nat→Prop)(S:St)(hk:Rk r bf bt w fv [] st F D S)(hn:Sm.nb1 [s]≤50000)(hfr:st.free.length+(Pa.st s).size≤1000000):
  Spec prog 67 [.ptr w 0 0 1,s.v] S (fun v U=>Rd' w (Rk r bf bt w fv (nms s.labels++s.bn) (s.rs r [qad s.labels 0] (qad s.labels 0).length st)) F D S (s.wholeQ r).v v U):=by
 refine Spec.ib func67 ok67 ?_;obtain ⟨S1,hS1⟩:∃S1:St,S1=S++[.arr [s.v] 8 1,.arr [smZ] 8 1]:=⟨_,rfl⟩;have b0:S1[S.length]?=some (.arr [s.v] 8 1):=by rw[hS1,qtW (by omega)];simp
 have b1:S1[S.length+1]?=some (.arr [smZ] 8 1):=by rw[hS1,qtW (by omega)];simp
 have fm:=fun bo s=>Rk.frm r bf bt w fv bo s
 have k1:Rk r bf bt w fv [] st F D S1:=by rw[hS1];exact (fm _ _).push hk _
 have s1:Stp w F D S F D S1:=by rw[hS1];exact (Stp.refl _ _ _ _).push _
 have o1:Off w F D (S.length+1):=(fm _ _).out hk (by omega);have hlab:qak [s]=s.labels:=by simp[qak]
 have q:=qeA r bf bt w fv [s] (fun y hy=>by simp at hy;subst hy;exact qiB r ho bf bt w fv 4000 y hsz (qt1 _)) (by simpa using hsz) [] st F D S1 true true [] k1 ⟨fun _ h=>(by cases h),quX _,by rw[hlab];simpa[Sm.nb1,Sm.nbl] using hn,by simpa using hfr⟩;rw[hlab] at q;simp only[qud,qvB,Sm.bnl,Sm.rsl,Sm.rwl,qu4,qut,qve,quZ,Scs.flat] at q;have ld0:ldS S1 (.ptr S.length 0 0 1) (some 8)=some s.v:=by simp[ldS,b0]
 simp[c67,boxS];rw[←hS1];simp[ld0,Sm.fits1];refine qan q ?_;rintro v U ⟨rfl,F1,D1,k2,s2⟩;have c1:=s2.at o1 b1;have p1:=o1.next (glt b1) s2;have hia:iaS U 8 (.sl false [(s.rw r [qad s.labels 0] (qad s.labels 0).length).v]) 0=some (.iptr (s.rw r [qad s.labels 0] (qad s.labels 0).length).v 0):=by simp[iaS]
 obtain ⟨y,hy⟩:∃y,y=s.rw r [qad s.labels 0] (qad s.labels 0).length:=⟨_,rfl⟩;rw[←hy] at hia ⊢;have hst:stS U (.ptr (S.length+1) 0 0 1) 8 y.v=some (U.set (S.length+1) (.arr [y.v] 8 1)):=by simp[stS,c1,qac]
 simp[hia,hst];have hz:(U.set (S.length+1) (.arr [y.v] 8 1))[S.length+1]?=some (.arr [y.v] 8 1):=qtZ (glt c1);exact qaj (vs:=[y.v]) (by simp[rvs,ldS,hz]) ⟨by simp only[retV];rw[hy];rfl,F1,D1,(fm _ _).set k2 _ p1,(s1.trans s2).set _ (by omega)⟩
def r0:Rp:=⟨[],[],[]⟩
theorem qtT:RpOk r0:=⟨qt1 _,quX _⟩
def st0:Rst:=⟨[],false,false⟩
abbrev wk0(gv:V):Ob:=.arr [.agg [.sl true [],.sl true [],gv,.sl true [],.sl true [],.bool false,.bool false]] 7 1
theorem Rk.start{w:Nat}{S:St}{gv:V}{fresh:List ByteArray}{D:Nat→Prop}(h:S[w]?=some (wk0 gv))(hg:Gs w D fresh gv S)(hD:∀l,D l→l<S.length)(hw:¬ D w):Rk ⟨fresh,[],[]⟩ true true w gv [] st0 (fun _=>False) D S:=by
 refine ⟨⟨.sl true [],.sl true [],?_,.inl ⟨rfl,rfl⟩,.inl ⟨rfl,rfl⟩,fun l a b c hh=>by cases hh⟩,?_,?_,id,hw,fun l hl=>hl.elim,glt h⟩
 ·unfold wkO st0;unfold wk0 at h;exact h
 ·rcases hg with ⟨h1,h2⟩|⟨l,wr,h1,h2,h3,h4,h5⟩
  ·exact .inl ⟨true,by rw[h1,h2];rfl⟩
  ·exact .inr ⟨l,wr,h1,h3,h4,h5⟩
 ·rintro l (hl|hl)
  ·exact hl.elim
  ·exact hD l hl
section
variable {f:Nat→ByteArray} {nm:ByteArray→Bool} (hf:∀k,nm (f k)=false) (r:Rp) (z:ByteArray)
include hf
theorem qiC(sc:Scs)(t:ByteArray)(st:Rst)(ht:nm t=true):z∈(ruse r sc t st).free↔z∈st.free∨z∈[reto f sc t].filter nm:=by
 unfold ruse reto
 cases sc.at t with
 | none=>simp[ht]
 | some k=>simp[hf]
omit hf in
theorem qtU{a b c:Prop}:(a∨b)∨c↔a∨c∨b:=⟨by rintro ((h|h)|h) <;> simp[h],by rintro (h|h|h) <;> simp[h]⟩
mutual
theorem Ex.rfr(sc:Scs):∀(x:Ex) (st:Rst),(Pa.ex x).valid nm=true→(z∈(Ex.rs r sc st x).free↔z∈st.free∨z∈(Ex.occ (x.w f sc)).filter nm)
 | .mk k o n m e t a,st,v=>by
  have va:=Ex.valid_args v;simp only[Ex.args] at va;have h1:=(Pa.valid_iff.1 v).1;rw[Ex.rs,Ex.w,Ex.occ,quI,qup];by_cases h6:k=6
  ·subst h6;have hn:Ex.named 6=true:=rfl;simp[Pa.vOwn,Ex.vOwn] at h1;obtain ⟨⟨⟨⟨_,rfl⟩,rfl⟩,rfl⟩,rfl,rfl⟩:=h1;rw[if_pos rfl,qiC hf r z sc t st (Ex.valid_text v hn),hn,if_pos rfl,if_pos rfl];simp[Ex.wl,Ex.occl]
  ·rw[if_neg h6,Ex.rfrl sc a _ va];by_cases h78:k=7∨k=8
   ·have hn:Ex.named k=true:=by unfold Ex.named;rcases h78 with rfl|rfl <;> rfl
    have h2:(qbl r sc t st).free=(ruse r sc t st).free:=rfl;rw[if_pos h78,hn,if_pos rfl,if_pos rfl,h2,qiC hf r z sc t st (Ex.valid_text v hn),qtU]
   ·have hn:Ex.named k=false:=by unfold Ex.named;simp;omega
    rw[if_neg h78,hn];simp
theorem Ex.rfrl(sc:Scs):∀(l:List Ex) (st:Rst),(∀x,x∈l→(Pa.ex x).valid nm=true)→(z∈(Ex.rsl r sc st l).free↔z∈st.free∨z∈(Ex.occl (Ex.wl f sc l)).filter nm)
 | [],st,_=>by simp[Ex.rsl,Ex.wl,Ex.occl]
 | x::l,st,v=>by
  rw[Ex.rsl,Ex.wl,Ex.occl,Ex.rfrl sc l _ fun y hy=>v y (by simp[hy]),Ex.rfr sc x st (v x (by simp)),quI,qup,or_assoc]
end
theorem El.rfrl(sc:Scs):∀(l:List El) (st:Rst),(∀x,x∈l→(Pa.el x).valid nm=true)→(z∈(El.rsl r sc st l).free↔z∈st.free∨z∈(El.occl (l.map (El.w f sc))).filter nm)
 | [],st,_=>by simp[El.rsl,El.occl]
 | x::l,st,v=>by
  have h1:=Ex.rfrl hf r z sc x.exps st (fun y hy=>(Pa.valid_iff.1 (v x (by simp))).2 _ (by simp only[Pa.kids];exact quz hy));have h2:=El.rfrl sc l (Ex.rsl r sc st x.exps) fun y hy=>v y (by simp[hy])
  show z∈(El.rsl r sc (Ex.rsl r sc st x.exps) l).free↔_;rw[h2,h1,qud,El.occl,quI,qup,or_assoc];unfold El.w;rw[←Ex.wl_map]
mutual
theorem Sm.rfr:∀(s:Sm) (sc:Scs) (n:Nat) (st:Rst),(Pa.st s).valid nm=true→(z∈(Sm.rs r sc n st s).free↔z∈st.free∨z∈(s.w f sc n).occ.filter nm)
 | .mk l k t g e el d b,sc,n,st,v=>by
  obtain ⟨v7,v8,v9⟩:=Sm.valid_block v;have vd:=Sm.valid_decls v;have vb:=Sm.valid_body v;have vg:=Sm.valid_targets v;have ve:=Sm.valid_exps v;have vl:=Sm.valid_elems v;have vt:=Sm.valid_text v;simp only[Sm.decls,Sm.body,Sm.targets,Sm.exps,Sm.elems,Sm.kind,Sm.text] at vd vb vg ve vl vt;rw[Sm.rs,Sm.w];by_cases h7:k=7
  ·obtain ⟨rfl,rfl,rfl⟩:=v7 h7;rw[if_pos h7,if_pos h7,Sm.occ,if_pos h7,quI,qup,Sm.rfrl b _ _ _ vb,De.rfrl d _ _ _ _ vd,or_assoc]
  ·rw[if_neg h7,if_neg h7];by_cases h8:k=8
   ·obtain ⟨rfl,rfl,rfl,rfl⟩:=v8 h8;rw[if_pos h8,if_pos h8,Sm.occ,if_neg h7,if_pos h8,Sm.rfrl b _ _ _ vb]
   ·obtain rfl:=v9 h7 h8;rw[if_neg h8,if_neg h8,Sm.occ,if_neg h7,if_neg h8,Sm.rfr1 b _ _ _ vb,Ex.rfrl hf r z sc e _ ve,El.rfrl hf r z sc el _ vl];have h2:∀st',(tgS r sc st' g).free=(Ex.rsl r sc st' g).free:=fun _=>rfl
    rw[h2,Ex.rfrl hf r z sc g _ vg];simp only[quI,qup];by_cases h6:k=6
    ·have h3:(qbl r sc t st).free=(ruse r sc t st).free:=rfl;rw[if_pos h6,if_pos h6,if_pos h6,h3,qiC hf r z sc t st (vt h6)];constructor
     ·rintro (((((h|h)|h)|h)|h)|h) <;> simp[h]
     ·rintro (h|(((h|h)|h)|h)|h) <;> simp[h]
    ·rw[if_neg h6,if_neg h6];constructor
     ·rintro ((((h|h)|h)|h)|h) <;> simp[h]
     ·rintro (h|(((h|h)|h)|h)|h)
      ·simp[h]
      ·simp[h]
      ·simp[h]
      ·simp[h]
      ·simp[h]
      ·simp at h
theorem De.rfr:∀(s:De) (own sc:Scs) (n:Nat) (st:Rst),(Pa.de s).valid nm=true→(z∈(De.rs r own sc n st s).free↔z∈st.free∨z∈(s.w f own sc n).occ.filter nm)
 | .mk k o t ns e fo b,own,sc,n,st,v=>by
  obtain ⟨v4,v5⟩:=De.valid_proc v;have vb:=De.valid_body v;have ve:=De.valid_exps v;simp only[De.body,De.exps] at vb ve;rw[De.rs,De.w];by_cases h4:k=4
  ·obtain rfl:=v4 h4;rw[if_pos h4,if_pos h4,De.occ,if_pos h4,Sm.rfr1 b _ _ _ vb];rfl
  ·obtain ⟨rfl,rfl⟩:=v5 h4;rw[if_neg h4,if_neg h4,De.occ,if_neg h4];exact Ex.rfrl hf r z _ e st ve
theorem De.rfrl:∀(l:List De) (own sc:Scs) (n:Nat) (st:Rst),(∀x,x∈l→(Pa.de x).valid nm=true)→(z∈(De.rsl r own sc n st l).free↔z∈st.free∨z∈(De.occl (De.wl f own sc n l)).filter nm)
 | [],_,_,_,st,_=>by simp[De.rsl,De.wl,De.occl]
 | x::l,own,sc,n,st,v=>by
  rw[De.rsl,De.wl,De.occl,De.rfrl l own sc _ _ fun y hy=>v y (by simp[hy]),De.rfr x own sc n st (v x (by simp)),quI,qup,or_assoc]
theorem Sm.rfrl:∀(l:List Sm) (sc:Scs) (n:Nat) (st:Rst),(∀x,x∈l→(Pa.st x).valid nm=true)→(z∈(Sm.rsl r sc n st l).free↔z∈st.free∨z∈(Sm.occl (Sm.wl f sc n l)).filter nm)
 | [],_,_,st,_=>by simp[Sm.rsl,Sm.wl,Sm.occl]
 | x::l,sc,n,st,v=>by
  rw[Sm.rsl,Sm.wl,Sm.occl,Sm.rfrl l sc _ _ fun y hy=>v y (by simp[hy]),Sm.rfr x sc n st (v x (by simp)),quI,qup,or_assoc]
theorem Sm.rfr1:∀(l:List Sm) (sc:Scs) (n:Nat) (st:Rst),(∀x,x∈l→(Pa.st x).valid nm=true)→(z∈(Sm.rs1 r sc n st l).free↔z∈st.free∨z∈(Sm.occl (Sm.w1 f sc n l)).filter nm)
 | [],_,_,st,_=>by simp[Sm.rs1,Sm.w1,Sm.occl]
 | x::l,sc,n,st,v=>by
  rw[Sm.rs1,Sm.w1,Sm.occl,Sm.rfr1 l sc _ _ fun y hy=>v y (by simp[hy]),Sm.rfr x _ _ st (v x (by simp)),quI,qup,or_assoc]
end
end
def Sm.rfree(s:Sm):List ByteArray:=(s.rs r0 [qad s.labels 0] (qad s.labels 0).length st0).free
theorem Sm.rfree_same(s:Sm)(v:(Pa.st s).valid qab=true):s.rfree.foldl insS []=s.frees:=by
 refine qil (qgc List.nodup_nil) fun z=>?_
 rw[qjo,Sm.free_occ (f:=numF) qi9 s v];refine (Sm.rfr qi9 r0 z s [qad s.labels 0] (qad s.labels 0).length st0 v).trans ?_;show z∈([]:List ByteArray)∨_↔_;rfl
structure Us(m c:Nat)(h:List ByteArray)(F D:Nat→Prop)(U:St):Prop where
 fc:U[c]?=some (.arr [.map m] 1 1)
 fm:∃bs ck,Stam bs ck∧U[m]?=some (.map ((h.foldl insK []).map kv) bs ck)
 hF:∀l,F l↔l=m
 hD:∀l,D l↔l=c
section
variable {m c:Nat} {h:List ByteArray} {F D:Nat→Prop} {U:St}
end
set_option maxRecDepth 20000
def c38:F':=⟨14,[.t 2],.k [.o 1 (.box (.t 0)),.a 2 (.sl true [])] (.k [.o 4 (.build (.agg [(.sl true []),(.sl true []),(.sl true []),(.sl true []),(.sl true []),(.bool false),(.bool false)]) []),.o 5 (.box (.t 4)),.m 3 5] (.k [.m 6 3,.j 7 8 1,.w 8 67 6 7] (.k [.m 9 3,.h 10 9,.f 11 1 10,.l 12 11,.c 13 42 12,.m 2 13] .ret)))⟩
theorem ok38:okF Tryz.f38 c38:=okI
theorem Gs.rdK{w:Nat}{F:Nat→Prop}{xs:List ByteArray}{v:V}{S:St}(h:Gs w F xs v S)(U:St)(hk:Kp (fun _=>False) S U):Rd v xs U:=by
 rcases h with ⟨rfl,rfl⟩|⟨l,wr,h1,h2,rfl,h4,h5⟩
 ·exact Rd.sl true [] U
 ·exact Rd.arr (hk.at h4 id) h5
theorem qtj(s:Sm)(hsz:(Pa.st s).size≤4000)(hn:Sm.nb1 [s]≤4000)(v:(Pa.st s).valid qab=true)(S:St):
  Spec prog 38 [s.v] S (fun r U=>r=.sl false (s.frees.map .str)∧Kp (fun _=>False) S U):=by
 refine Spec.ib func38 ok38 ?_;obtain ⟨S1,hS1⟩:∃S1:St,S1=S++[.arr [s.v] 8 1,wk0 (.sl true [])]:=⟨_,rfl⟩;have b0:S1[S.length]?=some (.arr [s.v] 8 1):=by rw[hS1];simp
 have b2:S1[S.length+1]?=some (wk0 (.sl true [])):=by rw[hS1,qtW (by omega)];simp
 have kS:Kp (fun _=>False) S S1:=by rw[hS1];exact (Kp.refl _ _).push _
 have ld0:ldS S1 (.ptr S.length 0 0 1) (some 8)=some s.v:=by simp[ldS,b0]
 have k1:Rk r0 true true (S.length+1) (.sl true []) [] st0 (fun _=>False) (fun _=>False) S1:=Rk.start b2 (.inl ⟨rfl,rfl⟩) (fun _ h=>h.elim) id;simp[c38,boxS,qaf,qal];rw[←hS1];simp[ld0];refine qan (qo4 r0 qtT true true (S.length+1) _ s hsz st0 _ _ S1 k1 (by omega) (by show 0+_≤_;omega)) ?_;rintro r U ⟨rfl,F1,D1,k2,s2⟩
 have kp1:Kp (fun _=>False) S U:=⟨quJ kS.len s2.k.len,fun l hl hn=>by
  rw[s2.k.get l (by have:=kS.len;omega) (by rintro (hh|hh);omega;exact hh)];exact kS.get l hl hn⟩
 obtain ⟨vb,vf,w1,w2,w3,w4⟩:=k2.wx;have ldf:ldS U (.ptr (S.length+1) 0 1 1) none=some vf:=by unfold wkO at w1;simp[ldS,w1]
 have hlen:=Sm.rs_len r0 s [qad s.labels 0] (qad s.labels 0).length st0;have h0:st0.free.length=0:=rfl;have q:=qtt vf _ (by omega) U w3.rdK;rw[show (s.rs r0 [qad s.labels 0] (qad s.labels 0).length st0).free.foldl insS []=s.frees from s.rfree_same v] at q;simp[ldf,qbb];refine qan q ?_;rintro r U2 ⟨rfl,k3⟩;simp;exact qaj rfl ⟨rfl,kp1.trans k3⟩
section
variable {nm:ByteArray→Bool} (r:Rp) (z:ByteArray)
end
def Lss(v v':V):Prop:=v'.cells.length=v.cells.length∧∀(j:Nat) (c c':V),v.cells[j]?=some c→v'.cells[j]?=some c'→∀(E:En) (u:Value),VR E c u→VR E c' u
section
variable {S:St} {l sz wr:Nat} {xs ys:List V} (ho:S[l]?=some (.arr xs sz wr)) (hn:ys.length=xs.length) (hx:∀(i:Nat) (v v':V),xs[i]?=some v→ys[i]?=some v'→Lss v v')
include ho
theorem qd6(k:Nat):live (S.set l (.arr ys sz wr)) k↔live S k:=by
 unfold live;by_cases hk:l=k
 ·subst hk;rw[qtZ (qtV.1 ho).1,ho];exact ⟨fun _=>⟨_,rfl,by simp⟩,fun _=>⟨_,rfl,by simp⟩⟩
 ·rw[qtY hk]
theorem qd5(E:En)(b:Nat):own E (S.set l (.arr ys sz wr)) b↔own E S b:=
 ⟨fun ⟨k,st,x,h1,h2⟩=>⟨k,st,x,(qd6 ho k).1 h1,h2⟩,fun ⟨k,st,x,h1,h2⟩=>⟨k,st,x,(qd6 ho k).2 h1,h2⟩⟩
include hn hx
theorem SR.weakO{E:En}{w:World}(h:SR E S w):SR E (S.set l (.arr ys sz wr)) w:=by
 have hl:=(qtV.1 ho).1;refine ⟨h.gl,h.I,fun k o hk=>?_,fun k st x hx=>by rw[List.length_set];exact h.dom k st x hx,fun b o hb=>h.apart b o ((qd5 ho E b).1 hb),fun b hb=>h.lt b ((qd5 ho E b).1 hb),fun k k' st st' x x' h1 h2=>h.inj k k' st st' x x' ((qd6 ho k).1 h1) ((qd6 ho k').1 h2)⟩;by_cases hkl:l=k
 ·subst hkl;rw[qtZ hl] at hk;cases hk;obtain ⟨⟨h1,h2⟩,h3,h4⟩:=h.obs l _ ho
  have old:∀(i:Nat) (v':V),ys[i]?=some v'→∃v,xs[i]?=some v∧Lss v v':=fun i v' hv=>by
   have hi:i<xs.length:=by rw[←hn];exact (qtV.1 hv).1
   exact ⟨_,qtX hi,hx i _ _ (qtX hi) hv⟩
  refine ⟨⟨h1,by rw[hn];exact h2⟩,fun v hv=>?_,fun st x hx hw=>?_⟩
  ·obtain ⟨i,hi⟩:=List.mem_iff_getElem?.1 hv;obtain ⟨y,hy,hyv⟩:=old i v hi;rw[hyv.1];exact h3 y (qt6 hy)
  ·obtain ⟨g1,g2,cells,t,g3,g4,g5,g6⟩:=h4 st x hx hw;refine ⟨by rw[hn];exact g1,g2,cells,t,g3,g4,g5,fun i v hv hi j c' hc=>?_⟩;obtain ⟨y,hy,hyv⟩:=old i v hv;have hj:j<y.cells.length:=by rw[←hyv.1];exact (qtV.1 hc).1
   obtain ⟨c,e1,e2⟩:=g6 i y hy hi j _ (qtX hj);exact ⟨c,e1,hyv.2 j _ _ (qtX hj) hc E c e2⟩
 ·rw[qtY hkl] at hk;exact h.obs k o hk
theorem Spec.weakO{P:Program}{f:FuncId}{args:List V}{R:V→St→Prop}(h:Spec P f args (S.set l (.arr ys sz wr)) R):Spec P f args S R:=by
 refine ⟨h.1,fun E w us n hs hv=>(h.2 E w us n (hs.weakO ho hn hx) hv).mono fun e w' ⟨u,r,E',S',h1,h2,h3,h4,h5,h6⟩=>⟨u,r,E',S',h1,h2,h3,h4,?_,by simpa using h6⟩⟩;rw[List.length_set] at h5;exact ⟨h5.size,h5.I,h5.ρ,h5.no,fun b hb=>(h5.own b hb).imp (qd5 ho E b).1 id,fun b o c hc=>(h5.newI b o c hc).imp id fun hh=>hh.imp (qd5 ho E b).1 id,fun b hb hn=>h5.frame b hb fun hh=>hn ((qd5 ho E b).1 hh),h5.out⟩
end
set_option maxRecDepth 20000
def c3:F':=⟨71,[.t 6],.k [.o 3 (.box (.t 0)),.a 6 (.bool false)] (.seq (.k [.j 14 8 3,.c 15 17 14,.o 16 (.un .not (.t 15))] (.cond (.t 16) (.k [.o 17 (.call (.f 18) []),.m 6 17] .ret) .skip)) (.k [.j 19 8 3,.m 20 1,.m 21 2,.x 22 19 19 20 21,.m 18 22,.e 23 0 18,.e 24 1 18,.o 7 (.new zS),.s 8 7 23,.m 8 24] (.k [.j 25 8 3,.c 26 20 25,.m 9 26] (.k [.m 27 1,.c 28 21 27,.m 10 28] (.k [.m 29 2,.c 30 21 29,.m 11 30] (.seq (.k [.m 31 9,.u 32 .eql 31 0,.m 33 32,.v 34 33 true (.mv (.t 10)),.v 35 33 true (.un .not (.t 34)),.v 36 33 true (.mv (.t 35)),.v 37 36 false (.mv (.t 11)),.v 38 36 false (.un .not (.t 37)),.v 39 33 true (.pick (.t 36) (.c (.bool true)) (.t 38)),.y 40 33 39] (.cond (.t 40) (.reg [.a 9 (.int .i64 1)]) .skip)) (.seq (.k [.m 41 9,.u 42 .neq 41 0] (.cond (.t 42) (.k [.o 43 (.call (.f 18) []),.m 44 43,.v 45 44 true (.mv (.t 8)),.v 46 44 true (.mv (.t 9)),.v 47 44 true (.bin .eql (.t 45) (.t 46)),.y 48 44 47,.m 6 48] .ret) .skip)) (.k [.j 50 8 3,.m 51 1,.m 52 2,.x 53 22 50 51 52,.m 49 53,.e 54 0 49,.e 55 1 49,.o 12 (.new zS),.s 8 12 54,.m 13 55] (.k [.o 56 (.call (.f 18) []),.m 57 56,.v 58 57 true (.mv (.t 8)),.v 59 57 true (.mv (.t 13)),.v 60 57 true (.bin .eql (.t 58) (.t 59)),.y 61 57 60,.m 62 61,.v 63 62 true (.mv (.t 8)),.v 64 62 true (.bin .neq (.t 63) (.c (.int .i64 0))),.v 65 62 true (.mv (.t 64)),.v 66 65 false (.ld (some 8) (.t 7)),.v 67 65 false (.ld (some 8) (.t 12)),.v 68 65 false (.call (.f 23) [(.t 66),(.t 67)]),.v 69 62 true (.pick (.t 65) (.c (.bool true)) (.t 68)),.y 70 62 69,.m 6 70] .ret)))))))))⟩
theorem ok3:okF Tryz.f3 c3:=okI
def c22:F':=⟨36,[.cell 6 (some 8),.t 7],.k [.o 3 (.box (.t 0)),.o 6 (.new zS),.a 7 (.int .i64 0)] (.seq (.k [.m 10 1,.m 11 2,.b 12 .neq 10 11,.m 13 12,.v 14 13 true (.ld (some 8) (.t 3)),.v 15 13 true (.call (.f 38) [(.t 14)]),.v 16 13 true (.mv (.t 2)),.v 17 13 true (.call (.f 34) [(.t 15),(.t 16)]),.y 18 13 17] (.cond (.t 18) (.k [.o 19 (.build zS []),.s 8 6 19,.a 7 (.int .i64 6)] .ret) .skip)) (.k [.m 20 1,.o 21 (.bsl 1 [(.t 20)]),.m 22 2,.o 23 (.build zX [(0,0,1,(.c (.int .i64 6))),(4,5,1,(.t 22))]),.o 24 (.bsl 7 [(.t 23)]),.o 25 (.build (.agg [(.sl true []),(.sl true []),(.sl true []),(.sl true []),(.sl true []),(.bool false),(.bool false)]) [(3,3,1,(.t 21)),(4,4,1,(.t 24))]),.o 26 (.box (.t 25)),.m 8 26] (.k [.m 27 8,.j 28 8 3,.w 29 67 27 28,.o 9 (.new zS),.s 8 9 29] (.seq (.k [.m 30 8,.h 31 30,.f 32 6 31,.l 33 32] (.cond (.t 33) (.k [.o 34 (.build zS []),.s 8 6 34,.a 7 (.int .i64 10)] .ret) .skip)) (.k [.j 35 8 9,.s 8 6 35,.a 7 (.int .i64 0)] .ret)))))⟩
theorem ok22:okF Tryz.f22 c22:=okI
def rnSt(s:Sm)(a b:ByteArray):Rst:=s.rs (rnR a b) [qad s.labels 0] (qad s.labels 0).length st0
def rnE(s:Sm)(a b:ByteArray):Int:=if a≠b∧isIn b s.frees=true then 6 else if (rnSt s a b).caught=true then 10 else 0
def rnV(s:Sm)(a b:ByteArray):V:=if rnE s a b=0 then (s.wholeQ (rnR a b)).v else smZ
theorem qsW(a b:ByteArray):RpOk (rnR a b):=⟨qt1 _,by show 1≤1000000;omega⟩
abbrev wkR(a b:ByteArray)(x:V):V:=.agg [.sl true [],.sl true [],.sl true [],.sl true [.str a],x,.bool false,.bool false]
theorem qr5(s:Sm)(hsz:(Pa.st s).size≤4000)(hn:Sm.nb1 [s]≤4000)(a b:ByteArray)(U:St):
  Spec prog 67 [.ptr U.length 0 0 1,s.v] (U++[.arr [wkR a b (.sl true [.agg [.int .i64 6,.int .i64 0,.int .i64 0,.int .i64 0,.int .i64 0,.str b,.sl true []]])] 7 1])
   (fun r Y=>r=(s.wholeQ (rnR a b)).v∧Kp (fun _=>False) U Y∧∃vb vf,Y[U.length]?=some (wkO (rnR a b) true false (.sl true []) vb vf (rnSt s a b))):=by
 have ho:(U++[Ob.arr [wkR a b (.sl true [.agg [.int .i64 6,.int .i64 0,.int .i64 0,.int .i64 0,.int .i64 0,.str b,.sl true []]])] 7 1])[U.length]?=some (.arr [wkR a b (.sl true [.agg [.int .i64 6,.int .i64 0,.int .i64 0,.int .i64 0,.int .i64 0,.str b,.sl true []]])] 7 1):=by simp
 have hex:(rnR a b).to.map Ex.v=[.agg [.int .i64 6,.int .i64 0,.int .i64 0,.int .i64 0,.int .i64 0,.str b,.sl false []]]:=rfl;refine Spec.weakO (ys:=[wkR a b (.sl false ((rnR a b).to.map Ex.v))]) ho rfl (fun i v v' h g=>?_) ?_
 ·have hi:i=0:=by have:=(qtV.1 h).1;simpa using this
  subst hi;cases h;cases g;rw[hex];refine ⟨rfl,fun j c c' h g E u r=>?_⟩
  match j,h,g with
  | 0,h,g=>cases h;cases g;exact r
  | 1,h,g=>cases h;cases g;exact r
  | 2,h,g=>cases h;cases g;exact r
  | 3,h,g=>cases h;cases g;exact r
  | 4,h,g=>cases h;cases g;exact r.weak
  | 5,h,g=>cases h;cases g;exact r
  | 6,h,g=>cases h;cases g;exact r
  | j+7,h,g=>cases h
 obtain ⟨W,hW⟩:∃W:St,W=(U++[Ob.arr [wkR a b (.sl true [.agg [.int .i64 6,.int .i64 0,.int .i64 0,.int .i64 0,.int .i64 0,.str b,.sl true []]])] 7 1]).set U.length (.arr [wkR a b (.sl false ((rnR a b).to.map Ex.v))] 7 1):=⟨_,rfl⟩;rw[←hW];have hw:W[U.length]?=some (wkO (rnR a b) true false (.sl true []) (.sl true []) (.sl true []) st0):=by rw[hW];exact qtZ (glt ho)
 have lW:W.length=U.length+1:=by rw[hW];simp
 have kW:Kp (fun _=>False) U W:=by rw[hW];exact ((Kp.refl _ _).push _).set _ (.inr (qt1 _))
 have k1:Rk (rnR a b) true false U.length (.sl true []) [] st0 (fun _=>False) (fun _=>False) W:=
  ⟨⟨_,_,hw,.inl ⟨rfl,rfl⟩,.inl ⟨rfl,rfl⟩,fun l a b c hh=>by cases hh⟩,.inl ⟨true,rfl⟩,fun l hl=>hl.elim id id |>.elim,id,id,fun l hl=>hl.elim,by omega⟩
 refine Spec.mono (qo4 (rnR a b) (qsW a b) true false U.length (.sl true []) s hsz st0 _ _ W k1 (by omega) (by show 0+_≤_;omega)) ?_;rintro r Y ⟨rfl,F1,D1,k2,s2⟩;obtain ⟨vb,vf,w1,_⟩:=k2.wx;refine ⟨rfl,⟨quJ kW.len s2.k.len,fun l hl hn=>?_⟩,vb,vf,w1⟩;rw[s2.k.get l (by omega) (by rintro (hh|hh);omega;exact hh)];exact kW.get l hl hn
theorem qsc(s:Sm)(hsz:(Pa.st s).size≤4000)(hn:Sm.nb1 [s]≤4000)(v:(Pa.st s).valid qab=true)(a b:ByteArray)(S:St):
  Spec prog 22 [s.v,.str a,.str b] S (fun r U=>r=.tup [rnV s a b,.int .i64 (rnE s a b)]∧Kp (fun _=>False) S U):=by
 refine Spec.ib func22 ok22 ?_;obtain ⟨S1,hS1⟩:∃S1:St,S1=S++[.arr [s.v] 8 1,.arr [smZ] 8 1]:=⟨_,rfl⟩;have b0:S1[S.length]?=some (.arr [s.v] 8 1):=by rw[hS1];simp
 have b1:S1[S.length+1]?=some (.arr [smZ] 8 1):=by rw[hS1,qtW (by omega)];simp
 have kS:Kp (fun _=>False) S S1:=by rw[hS1];exact (Kp.refl _ _).push _
 have d0:ldS S1 (.ptr S.length 0 0 1) (some 8)=some s.v:=by simp[ldS,b0]
 have lf:=s.frees_len
 have lf':s.frees.length≤1000000:=by
  unfold Sm.frees;rw[qhd];have h1:=qjK (l:=fsto (s.wholeH coP coZ)) (ks:=[]);simp only[qve] at h1;omega
 have fin:∀(Y:St) (y:V) (e:Int) (ev:Env),Kp (fun _=>False) S1 Y→rnV s a b=y→rnE s a b=e→ev.get 6=some (.ptr (S.length+1) 0 0 1)→ev.get 7=some (.int .i64 e)→y.size=8→V.part y 0 (some 8)=some y→
   endp [.cell 6 (some 8),.t 7] S.length (fun r U=>r=.tup [rnV s a b,.int .i64 (rnE s a b)]∧Kp (fun _=>False) S U) .ret ev (Y.set (S.length+1) (.arr [y] 8 1)):=fun Y y e ev kY hy he g6 g7 hz hp=>by
  have h1:=kY.at b1 id;have h2:(Y.set (S.length+1) (.arr [y] 8 1))[S.length+1]?=some (.arr [y] 8 1):=qtZ (glt h1);exact qaj (vs:=[y,.int .i64 e]) (by simp[rvs,g6,g7,ldS,h2,hp]) ⟨by rw[hy,he];rfl,(kS.trans kY).set _ (.inr (by omega))⟩
 have tail:∀(U Y:St) (r:V) (vb vf:V),Kp (fun _=>False) S1 U→r=(s.wholeQ (rnR a b)).v→Kp (fun _=>False) U Y→Y[U.length]?=some (wkO (rnR a b) true false (.sl true []) vb vf (rnSt s a b))→(a≠b∧isIn b s.frees=true→False)→
   Kp (fun _=>False) S1 (Y++[.arr [r] 8 1])∧ldS (Y++[.arr [r] 8 1]) (.ptr U.length 0 6 1) none=some (.bool (rnSt s a b).caught)∧ldS (Y++[.arr [r] 8 1]) (.ptr Y.length 0 0 1) (some 8)=some r∧rnE s a b=(if (rnSt s a b).caught=true then 10 else 0):=fun U Y r vb vf kU hr kY hY hn=>by
  refine ⟨(kU.trans kY).push _,?_,?_,if_neg hn⟩
  ·have h:(Y++[Ob.arr [r] 8 1])[U.length]?=_:=gp hY;unfold wkO at h;simp[ldS,h]
  ·have h:(Y++[Ob.arr [r] 8 1])[Y.length]?=some (.arr [r] 8 1):=by simp
   rw[hr] at h ⊢;simp[ldS,h]
 simp only[c22,C'.k];refine qav (fun e U=>U=S1∧e.get 1=some (.str a)∧e.get 2=some (.str b)∧e.get 3=some (.ptr S.length 0 0 1)∧e.get 6=some (.ptr (S.length+1) 0 0 1)∧e.get 7=some (.int .i64 0)) (by rw[hS1];simp[boxS,qbr]) ?_;rintro e U ⟨rfl,g1,g2,g3,g6,g7⟩;refine qav (fun e U'=>Kp (fun _=>False) U U'∧¬ (a≠b∧isIn b s.frees=true)∧e.get 1=some (.str a)∧e.get 2=some (.str b)∧e.get 3=some (.ptr S.length 0 0 1)∧e.get 6=some (.ptr (S.length+1) 0 0 1)∧e.get 7=some (.int .i64 0)) ?_ ?_
 ·by_cases hab:a=b
  ·subst hab;simp[g1,g2,g3,g6,g7];exact Kp.refl _ _
  ·simp[g1,g2,g3,g6,g7,hab,d0];refine qan (qtj s hsz hn v U) ?_;rintro r U2 ⟨rfl,k2⟩;simp[g2];refine qai (qs6 false s.frees b U2 lf') ?_;have he:rnE s a b=if a≠b∧isIn b s.frees=true then 6 else if (rnSt s a b).caught=true then 10 else 0:=rfl
   cases hi:isIn b s.frees with
   | true=>
    rw[if_pos ⟨hab,hi⟩] at he;have hv:rnV s a b=smZ:=by unfold rnV;rw[he];rfl
    have c1:=k2.at b1 id;simp[qaf,qal,stS,c1,qac,g6,g7];refine fin _ smZ 6 _ k2 hv he ?_ ?_ rfl rfl
    ·simp[g6]
    ·simp
   | false=>
    simp[g1,g2,g3,g6,g7,hab];exact k2
 rintro e1 U1 ⟨k1,hn1,g1,g2,g3,g6,g7⟩;have c0:=k1.at b0 id
 have ld1:∀o,ldS (U1++[o]) (.ptr S.length 0 0 1) (some 8)=some s.v:=fun o=>by
  have h:(U1++[o])[S.length]?=_:=gp c0;simp[ldS,h]
 have f1:fits 1 [V.str a]=true:=rfl;have f7:fits 7 [V.agg [.int .i64 6,.int .i64 0,.int .i64 0,.int .i64 0,.int .i64 0,.str b,.sl true []]]=true:=rfl;simp[g1,g2,g3,g6,g7,f1,f7,qaf,qal,qac,boxS,ld1];refine qan (qr5 s hsz hn a b U1) ?_;rintro r Y ⟨hr,kY,vb,vf,hY⟩;obtain ⟨q1,q2,q3,q4⟩:=tail U1 Y r vb vf k1 hr kY hY fun h=>hn1 h
 have c1:=q1.at b1 id;have hr8:r.size=8∧r.cells.all V.flat=true∧V.part r 0 (some 8)=some r:=by rw[hr];exact ⟨Sm.v_size _,by simp,qgD _⟩
 have hst:stS (Y++[.arr [smZ] 8 1]) (.ptr Y.length 0 0 1) 8 r=some (Y++[.arr [r] 8 1]):=by simp[stS,qac,hr8]
 simp only[smZ] at hst;simp[boxS,hst,qbb,q2]
 cases hc:(rnSt s a b).caught with
 | true=>
  rw[hc,if_pos rfl] at q4;have hv:rnV s a b=smZ:=by unfold rnV;rw[q4];rfl
  simp[qaf,qal,stS,c1,qac,g6,g7];refine fin _ smZ 10 _ q1 hv q4 ?_ ?_ rfl rfl
  ·simp[g6]
  ·simp
 | false=>
  rw[hc,if_neg (by simp)] at q4;have hv:rnV s a b=r:=by unfold rnV;rw[q4,if_pos rfl,hr]
  simp[q3,stS,c1,qac,hr8,g6,g7];refine fin _ r 0 _ q1 hv q4 ?_ ?_ hr8.1 hr8.2.2
  ·simp[g6]
  ·simp
end Go.Proofs.YtbifpocccfkhhaaGreatDoor
end
