/- CopyAparts: for all statements and texts, in every laid world, the law returns true (its tied card). Conditions: none. -/
import Derived.Test.YtbifpocccfkhhaaGreatDoorRm
set_option linter.all false
noncomputable section
namespace Go.Proofs.YtbifpocccfkhhaaGreatDoor
open Go Go.Proofs.Tryz
theorem El.rsl_len(r:Rp)(sc:Scs):∀(l:List El) (st:Rst),(El.rsl r sc st l).free.length≤st.free.length+qF (l.map Pa.el)
 | [],st=>by simp[El.rsl]
 | x::l,st=>by
  have h1:=Ex.rsl_len r sc x.exps st;have h2:=El.rsl_len r sc l (Ex.rsl r sc st x.exps);have h3:(Pa.el x).size=1+qF (x.exps.map Pa.ex):=by rw[Pa.size_eq];rfl
  have h4:El.rsl r sc st (x::l)=El.rsl r sc (Ex.rsl r sc st x.exps) l:=rfl;rw[h4,qqd,sizes_cons];omega
theorem qfw(r:Rp)(sc:Scs)(st:Rst)(l:List Ex):(tgS r sc st l).free.length≤st.free.length+qF (l.map Pa.ex):=Ex.rsl_len r sc l st
mutual
theorem Sm.rs_len(r:Rp):∀(s:Sm) (sc:Scs) (n:Nat) (st:Rst),(s.rs r sc n st).free.length≤st.free.length+(Pa.st s).size
 | .mk l k t g e h d b,sc,n,st=>by
  have hsz:=Sm.size_parts (.mk l k t g e h d b);simp only[Sm.labels,Sm.targets,Sm.exps,Sm.elems,Sm.decls,Sm.body] at hsz;rw[Sm.rs];split
  ·have h1:=De.rsl_len r d (qd (qg d b) n::sc) sc (n+(qd (qg d b) n).length) st;have h2:=Sm.rsl_len r b (qd (qg d b) n::sc) (n+(qd (qg d b) n).length+De.nbl d) (De.rsl r (qd (qg d b) n::sc) sc (n+(qd (qg d b) n).length) st d);omega
  ·split
   ·have h2:=Sm.rsl_len r b (qd (qk b) n::sc) (n+(qd (qk b) n).length) st;omega
   ·have h0:(if k=6 then zN r sc t st else st).free.length≤st.free.length+1:=by
     split
     ·exact QQ r sc t st
     ·omega
    have h1:=qfw r sc (if k=6 then zN r sc t st else st) g;have h2:=El.rsl_len r sc h (tgS r sc (if k=6 then zN r sc t st else st) g);have h3:=Ex.rsl_len r sc e (El.rsl r sc (tgS r sc (if k=6 then zN r sc t st else st) g) h);have h4:=Sm.rs1_len r b sc n (Ex.rsl r sc (El.rsl r sc (tgS r sc (if k=6 then zN r sc t st else st) g) h) e);omega
theorem De.rs_len(r:Rp):∀(s:De) (own sc:Scs) (n:Nat) (st:Rst),(s.rs r own sc n st).free.length≤st.free.length+(Pa.de s).size
 | .mk k o t nm e fo b,own,sc,n,st=>by
  have hsz:=De.size_parts (.mk k o t nm e fo b);simp only[De.names,De.formals,De.exps,De.body] at hsz;rw[De.rs];split
  ·have h1:=Ex.rsl_len r own e st;have h2:=Sm.rs1_len r b (qd (fo.map Fo.name) n::own) (n+(qd (fo.map Fo.name) n).length) (Ex.rsl r own st e);omega
  ·have h1:=Ex.rsl_len r (if k=2 then sc else own) e st;omega
theorem De.rsl_len(r:Rp):∀(l:List De) (own sc:Scs) (n:Nat) (st:Rst),(De.rsl r own sc n st l).free.length≤st.free.length+qF (l.map Pa.de)
 | [],own,sc,n,st=>by simp[De.rsl]
 | x::l,own,sc,n,st=>by
  have h1:=De.rs_len r x own sc n st;have h2:=De.rsl_len r l own sc (n+De.nb x) (x.rs r own sc n st);simp only[De.rsl,qqd,sizes_cons];omega
theorem Sm.rsl_len(r:Rp):∀(l:List Sm) (sc:Scs) (n:Nat) (st:Rst),(Sm.rsl r sc n st l).free.length≤st.free.length+qF (l.map Pa.st)
 | [],sc,n,st=>by simp[Sm.rsl]
 | x::l,sc,n,st=>by
  have h1:=Sm.rs_len r x sc n st;have h2:=Sm.rsl_len r l sc (n+Sm.nb x) (x.rs r sc n st);simp only[Sm.rsl,qqd,sizes_cons];omega
theorem Sm.rs1_len(r:Rp):∀(l:List Sm) (sc:Scs) (n:Nat) (st:Rst),(Sm.rs1 r sc n st l).free.length≤st.free.length+qF (l.map Pa.st)
 | [],sc,n,st=>by simp[Sm.rs1]
 | x::l,sc,n,st=>by
  have h1:=Sm.rs_len r x (qd x.labels n::sc) (n+(qd x.labels n).length) st;have h2:=Sm.rs1_len r l sc (n+(qd x.labels n).length+Sm.nb x) (x.rs r (qd x.labels n::sc) (n+(qd x.labels n).length) st);simp only[Sm.rs1,qqd,sizes_cons];omega
end
theorem JT(l:List Bz)(n:Nat):(nms l).length=(qd l n).length:=by rw[zY];exact zd l 0 n
theorem qe5(s:Sco)(sc:Scs):(Scs.flat (s::sc)).length=(Scs.flat sc).length+s.length:=by simp[Scs.flat]
theorem Rk.real{r:Rp}{bf bt:Bool}{w:Nat}{fv:V}{bound:List Bz}{st:Rst}{F D:Np}{S:St}(h:Rk r bf bt w fv bound st F D S)(bound':List Bz)(st':Rst):∃F' D' U,Rk r bf bt w fv bound' st' F' D' U∧Stp w F D S F' D' U:=by
 have hlw:=h.lw;obtain ⟨U,hU⟩:∃U:St,U=(S++[Ob.arr (bound'.map V.str) 1 0,Ob.arr (st'.free.map V.str) 1 0]).set w (wkO r bf bt fv (.arr S.length 0 bound'.length bound'.length) (.arr (S.length+1) 0 st'.free.length st'.free.length) st'):=⟨_,rfl⟩;have u0:U[S.length]?=some (.arr (bound'.map .str) 1 0):=by rw[hU,qpX (by omega),qpV (by omega)];simp
 have u1:U[S.length+1]?=some (.arr (st'.free.map .str) 1 0):=by rw[hU,qpX (by omega),qpV (by omega)];simp
 have uw:U[w]?=some (wkO r bf bt fv (.arr S.length 0 bound'.length bound'.length) (.arr (S.length+1) 0 st'.free.length st'.free.length) st'):=by rw[hU,qpW (by simp;omega)]
 have uo:∀l o,l≠w→S[l]?=some o→U[l]?=some o:=fun l o hl ho=>by rw[hU,qpX (Ne.symm hl)];exact gpp ho
 have lU:U.length=S.length+2:=by rw[hU];simp
 refine ⟨fun l=>F l∨l=S.length∨l=S.length+1,D,U,⟨⟨_,_,uw,.inr ⟨S.length,0,.inr (.inl rfl),by omega,rfl,u0,by omega⟩,.inr ⟨S.length+1,0,.inr (.inr rfl),by omega,rfl,u1,by omega⟩,?_⟩,h.fr.keep fun l o hl ho=>uo l o (fun hh=>h.nD (hh ▸ hl)) ho,?_,?_,h.nD,?_,by omega⟩,⟨?_,?_⟩,?_,grow.refl _ _⟩
 ·intro l a b c hb a' b' c' hf;simp only[V.arr.injEq] at hb hf;omega
 ·rintro l ((hl|rfl|rfl)|hl)
  ·have:=h.lt l (.inl hl);omega
  ·omega
  ·omega
  ·have:=h.lt l (.inr hl);omega
 ·rintro (hf|hf|hf)
  ·exact h.nF hf
  ·omega
  ·omega
 ·rintro l (hl|rfl|rfl) hd
  ·exact h.di l hl hd
  ·have:=h.lt _ (.inr hd);omega
  ·have:=h.lt _ (.inr hd);omega
 ·omega
 ·intro l hl hn;rw[hU,qpX (fun hh=>hn (.inl hh.symm)),qpY hl]
 ·rintro l (hl|hl|hl)
  ·exact .inl hl
  ·exact .inr (by omega)
  ·exact .inr (by omega)
structure Okw(bound:List Bz)(st:Rst)(sc:Scs)(nb size:Nat):Prop where
 nd:ScD sc
 fl:(Scs.flat sc).length≤bound.length
 bo:bound.length+nb≤50000
 fr:st.free.length+size≤1000000
def qkY(r:Rp)(bf bt:Bool)(w:Nat)(fv:V)(s:Sm):Prop:=∀(bound:List Bz) (st:Rst) (F D:Np) (S:St) (b:Bool) (sc:Scs),Rk r bf bt w fv bound st F D S→Okw bound st sc s.nb (Pa.st s).size→
 qB prog 194 [.ptr w 0 0 1,s.v,.sl b ((Scs.flat sc).map yj)] S (fun v U=>Rd' w (Rk r bf bt w fv (bound++s.bn) (s.rs r sc bound.length st)) F D S (s.rw r sc bound.length).v v U)
theorem qiv(l:List Sm)(i:Nat)(h:i<l.length):Sm.nbl (l.take (i+1))=Sm.nbl (l.take i)+l[i].nb∧Sm.nbl (l.take (i+1))≤Sm.nbl l:=by
 have ht:l.take (i+1)=l.take i++[l[i]]:=by rw[qp9,qpZ h];rfl
 refine ⟨by rw[ht,Sm.nbl_append];simp[Sm.nbl],?_⟩;have:Sm.nbl l=Sm.nbl (l.take (i+1))+Sm.nbl (l.drop (i+1)):=by rw[←Sm.nbl_append,qqE]
 omega
theorem qiu(l:List Sm)(i:Nat)(h:i<l.length):Sm.nb1 (l.take (i+1))=Sm.nb1 (l.take i)+((qd l[i].labels 0).length+l[i].nb)∧Sm.nb1 (l.take (i+1))≤Sm.nb1 l:=by
 have ht:l.take (i+1)=l.take i++[l[i]]:=by rw[qp9,qpZ h];rfl
 refine ⟨by rw[ht,Sm.nb1_append];simp[Sm.nb1],?_⟩;have:Sm.nb1 l=Sm.nb1 (l.take (i+1))+Sm.nb1 (l.drop (i+1)):=by rw[←Sm.nb1_append,qqE]
 omega
theorem jJ(r:Rp)(bf bt:Bool)(w:Nat)(fv:V)(l:List Sm)(H:∀s,s∈l→qkY r bf bt w fv s)(hl:l.length≤4000)(bound:List Bz)(st:Rst)(F D:Np)(S:St)(bl b:Bool)(sc:Scs)(hk:Rk r bf bt w fv bound st F D S)(ok:Okw bound st sc (Sm.nbl l) (qF (l.map Pa.st))):
  qB prog 161 [.ptr w 0 0 1,.sl bl (l.map Sm.v),.sl b ((Scs.flat sc).map yj)] S (fun v U=>Rd' w (Rk r bf bt w fv (bound++Sm.bnl l) (Sm.rsl r sc bound.length st l)) F D S (.sl false ((Sm.rwl r sc bound.length l).map Sm.v)) v U):=by
 refine qB.ib func161 ok161 ?_;simp[c161];refine qE (WwF w 8 F D S (Rk r bf bt w fv (bound++Sm.bnl l) (Sm.rsl r sc bound.length st l)) 7 ((Sm.rwl r sc bound.length l).map Sm.v)) ?_ ?_
 ·refine qq (LwF w 8 F D S l.length (fun i=>Rk r bf bt w fv (bound++Sm.bnl (l.take i)) (Sm.rsl r sc bound.length st (l.take i))) (fun i=>(Sm.rwl r sc bound.length (l.take i)).map Sm.v)
   (fun i gv=>[(8,.int .i64 i),(7,gv),(0,.ptr w 0 0 1),(1,.sl bl (l.map Sm.v)),(2,.sl b ((Scs.flat sc).map yj))])) l.length _ ?_ ⟨0,_,F,D,by simp,by omega,Gw.nil _ _ _ _ _ _,by simpa[Sm.bnl,Sm.rsl] using hk,Stp.refl _ _ _ _,rfl⟩ ?_
  ·exact Env.so (by simp)
  rintro j e U ⟨i,gv,F1,D1,rfl,hi,hg,hk1,hs1,rfl⟩;dsimp only at hg hk1;by_cases hlt:i<l.length
  ·have hst:=Qc Pa.st l i hlt;have hrl:=Sm.rsl_len r (l.take i) sc bound.length st;obtain ⟨n1,n2⟩:=qiv l i hlt;have hbl:(bound++Sm.bnl (l.take i)).length=bound.length+Sm.nbl (l.take i):=by rw[qp8,Sm.bnl_length]
   have ht:l.take (i+1)=l.take i++[l[i]]:=by rw[qp9,qpZ hlt];rfl
   have q:=H l[i] (qp5 hlt) _ _ F1 D1 U b sc hk1 ⟨ok.nd,by have:=ok.fl;omega,by have:=ok.bo;omega,by have:=ok.fr;omega⟩;rw[hbl] at q;simp[hlt,qhg];refine qm q ?_;rintro v U2 ⟨rfl,F2,D2,hk2,hs2⟩;have hg2:=hg.step hs2;have hs3:=hs1.trans hs2;obtain ⟨v',U3,ha,hg3,hk3,hs4,_⟩:=hg2.app1F (Rk.frm r bf bt w fv _ _) (bytes:=168) (b:=true) hk2 hs3 (Sm.fits1 (l[i].rw r sc (bound.length+Sm.nbl (l.take i)))) (by rw[qp2,qhc,qqR];omega)
   have hn1:(Sm.rwl r sc bound.length (l.take i)).map Sm.v++[(l[i].rw r sc (bound.length+Sm.nbl (l.take i))).v]=(Sm.rwl r sc bound.length (l.take (i+1))).map Sm.v:=by
    rw[ht,Sm.rwl_append,qqe];rfl
   have hn2:Sm.rs r sc (bound.length+Sm.nbl (l.take i)) (Sm.rsl r sc bound.length st (l.take i)) l[i]=Sm.rsl r sc bound.length st (l.take (i+1)):=by
    rw[ht,Sm.rsl_append];rfl
   have hn3:bound++Sm.bnl (l.take i)++l[i].bn=bound++Sm.bnl (l.take (i+1)):=by
    rw[ht,Sm.bnl_append,qp4];simp[Sm.bnl]
   rw[hn1] at hg3;rw[hn2,hn3] at hk3;simp[Sm.fits1,ha,qO (n:=(i:Int)+1)];refine ⟨_,?_,_,?_,i+1,v',F2,D2,rfl,by omega,hg3,hk3,hs4,rfl⟩
   ·omega
   ·exact Env.so (by simp)
  ·have:i=l.length:=by omega
   subst this;simp only[qqo] at hg hk1;simp;exact ⟨gv,F1,D1,rfl,hg,hk1,hs1⟩
 rintro e U ⟨gv,F1,D1,g9,hg,hk1,hs1⟩;simp[g9];exact Yh (Rk.frm _ _ _ _ _ _ _) rfl hg hk1 hs1 (by rw[←qM,wSm])
theorem Okw.enter{bound:List Bz}{st:Rst}{sc:Scs}{nb size m:Nat}(ok:Okw bound st sc nb size)(l:List Bz)(h:(qd l 0).length+m≤nb):Okw (bound++nms l) st (qd l bound.length::sc) m size:=by
 have h1:=JT l 0;have h2:=JT l bound.length;refine ⟨ok.nd.bind l _,?_,?_,ok.fr⟩
 ·rw[qe5,qp8];have:=ok.fl;omega
 ·rw[qp8];have:=ok.bo;omega
theorem Zn:∀l:List Sm,(qk l).length≤qF (l.map Pa.st)
 | []=>by simp[qk]
 | x::m=>by
  have ih:=Zn m;have:=Sm.size_parts x;simp only[qk,qqQ,qp8,qqd,sizes_cons] at ih ⊢;omega
theorem YY(r:Rp)(bf bt:Bool)(w:Nat)(fv:V)(l:List Sm)(H:∀s,s∈l→qkY r bf bt w fv s)(hl:qF (l.map Pa.st)≤4000)(bound:List Bz)(st:Rst)(F D:Np)(S:St)(bl b:Bool)(sc:Scs)(hk:Rk r bf bt w fv bound st F D S)(ok:Okw bound st sc ((qd (qk l) 0).length+Sm.nbl l) (qF (l.map Pa.st))):
  qB prog 117 [.ptr w 0 0 1,.sl bl (l.map Sm.v),.sl b ((Scs.flat sc).map yj)] S (fun v U=>Rd' w (Rk r bf bt w fv (bound++(nms (qk l)++Sm.bnl l)) (Sm.rsl r (qd (qk l) bound.length::sc) (bound.length+(qd (qk l) bound.length).length) st l)) F D S (.sl false ((Sm.rwl r (qd (qk l) bound.length::sc) (bound.length+(qd (qk l) bound.length).length) l).map Sm.v)) v U):=by
 refine qB.ib func117 ok117 ?_;have hlen:l.length≤4000:=by have:=qT (l.map Pa.st);rw[qp2] at this;omega
 have hlab:=Zn l;have hbl:(bound++nms (qk l)).length=bound.length+(qd (qk l) bound.length).length:=by rw[qp8,JT _ bound.length]
 simp[c117];refine qm (qeU l hl bl w _ (Rk.frm r bf bt w fv bound st) F D S hk) ?_;rintro v U ⟨rfl,F1,D1,k1,s1⟩;simp;have hflo:=ok.fl;have hbo:=ok.bo;refine qm (qb6 r bf bt w fv bound st F1 D1 U k1 b sc (qk l) _ (.inl ⟨false,rfl⟩) (by omega) (by omega)) ?_;rintro v U2 ⟨rfl,F2,D2,k2,s2⟩;simp;have q:=jJ r bf bt w fv l H hlen _ st F2 D2 U2 bl false (qd (qk l) bound.length::sc) k2 (ok.enter (qk l) (qp0 _));rw[hbl,qp4] at q;refine qm q ?_;rintro v U3 ⟨rfl,F3,D3,k3,s3⟩;simp;exact qi rfl ⟨rfl,F3,D3,k3,(s1.trans s2).trans s3⟩
theorem jM(r:Rp)(bf bt:Bool)(w:Nat)(fv:V)(l:List Sm)(H:∀s,s∈l→qkY r bf bt w fv s)(hl:qF (l.map Pa.st)≤4000)(bound:List Bz)(st:Rst)(F D:Np)(S:St)(bl b:Bool)(sc:Scs)(hk:Rk r bf bt w fv bound st F D S)(ok:Okw bound st sc (Sm.nb1 l) (qF (l.map Pa.st))):
  qB prog 232 [.ptr w 0 0 1,.sl bl (l.map Sm.v),.sl b ((Scs.flat sc).map yj)] S (fun v U=>Rd' w (Rk r bf bt w fv (bound++Sm.bn1 l) (Sm.rs1 r sc bound.length st l)) F D S (.sl false ((Sm.rw1 r sc bound.length l).map Sm.v)) v U):=by
 refine qB.ib func232 ok232 ?_;have hlen:l.length≤4000:=by have:=qT (l.map Pa.st);rw[qp2] at this;omega
 simp[c232];refine qE (WwF w 8 F D S (Rk r bf bt w fv (bound++Sm.bn1 l) (Sm.rs1 r sc bound.length st l)) 7 ((Sm.rw1 r sc bound.length l).map Sm.v)) ?_ ?_
 ·refine qq (LwF w 8 F D S l.length (fun i=>Rk r bf bt w fv (bound++Sm.bn1 (l.take i)) (Sm.rs1 r sc bound.length st (l.take i))) (fun i=>(Sm.rw1 r sc bound.length (l.take i)).map Sm.v)
   (fun i gv=>[(8,.int .i64 i),(7,gv),(0,.ptr w 0 0 1),(1,.sl bl (l.map Sm.v)),(2,.sl b ((Scs.flat sc).map yj))])) l.length _ ?_ ⟨0,_,F,D,by simp,by omega,Gw.nil _ _ _ _ _ _,by simpa[Sm.bn1,Sm.rs1] using hk,Stp.refl _ _ _ _,rfl⟩ ?_
  ·exact Env.so (by simp)
  rintro j e U ⟨i,gv,F1,D1,rfl,hi,hg,hk1,hs1,rfl⟩;dsimp only at hg hk1;by_cases hlt:i<l.length
  ·have hst:=Qc Pa.st l i hlt;have hrl:=Sm.rs1_len r (l.take i) sc bound.length st;obtain ⟨n1,n2⟩:=qiu l i hlt;have hbl:(bound++Sm.bn1 (l.take i)).length=bound.length+Sm.nb1 (l.take i):=by rw[qp8,Sm.bn1_length]
   have ht:l.take (i+1)=l.take i++[l[i]]:=by rw[qp9,qpZ hlt];rfl
   have hlab:qk [l[i]]=l[i].labels:=by simp[qk]
   have q:=YY r bf bt w fv [l[i]] (fun s hs=>by simp at hs;subst hs;exact H _ (qp5 hlt)) (by simp;omega) _ _ F1 D1 U true b sc hk1 ⟨ok.nd,by have:=ok.fl;omega,by have:=ok.bo;rw[hlab];simp only[Sm.nbl];omega,by have:=ok.fr;simp;omega⟩;rw[hbl,hlab] at q;simp only[qqd,qq4,Sm.bnl,Sm.rsl,Sm.rwl,qqV] at q;simp[hlt,qhg,Sm.fits1];refine qm q ?_;rintro v U2 ⟨rfl,F2,D2,hk2,hs2⟩;have hg2:=hg.step hs2;have hs3:=hs1.trans hs2;obtain ⟨v',U3,ha,hg3,hk3,hs4,_⟩:=hg2.app1F (Rk.frm r bf bt w fv _ _) (bytes:=168) (b:=false) hk2 hs3 (Sm.fits1 (l[i].rw r (qd l[i].labels (bound.length+Sm.nb1 (l.take i))::sc) (bound.length+Sm.nb1 (l.take i)+(qd l[i].labels (bound.length+Sm.nb1 (l.take i))).length))) (by rw[qp2,qfv,qqR];omega)
   have hn1:(Sm.rw1 r sc bound.length (l.take i)).map Sm.v++[(l[i].rw r (qd l[i].labels (bound.length+Sm.nb1 (l.take i))::sc) (bound.length+Sm.nb1 (l.take i)+(qd l[i].labels (bound.length+Sm.nb1 (l.take i))).length)).v]=(Sm.rw1 r sc bound.length (l.take (i+1))).map Sm.v:=by
    rw[ht,Sm.rw1_append,qqe];rfl
   have hn2:Sm.rs r (qd l[i].labels (bound.length+Sm.nb1 (l.take i))::sc) (bound.length+Sm.nb1 (l.take i)+(qd l[i].labels (bound.length+Sm.nb1 (l.take i))).length) (Sm.rs1 r sc bound.length st (l.take i)) l[i]=Sm.rs1 r sc bound.length st (l.take (i+1)):=by
    rw[ht,Sm.rs1_append];rfl
   have hn3:bound++Sm.bn1 (l.take i)++(nms l[i].labels++l[i].bn)=bound++Sm.bn1 (l.take (i+1)):=by
    rw[ht,Sm.bn1_append,qp4];simp[Sm.bn1]
   rw[hn1] at hg3;rw[hn2,hn3] at hk3;simp[ha,qO (n:=(i:Int)+1)];refine ⟨_,?_,_,?_,i+1,v',F2,D2,rfl,by omega,hg3,hk3,hs4,rfl⟩
   ·omega
   ·exact Env.so (by simp)
  ·have:i=l.length:=by omega
   subst this;simp only[qqo] at hg hk1;simp;exact ⟨gv,F1,D1,rfl,hg,hk1,hs1⟩
 rintro e U ⟨gv,F1,D1,g9,hg,hk1,hs1⟩;simp[g9];exact Yh (Rk.frm _ _ _ _ _ _ _) rfl hg hk1 hs1 (by rw[←qM,wSm])
def Gx(sz n0 w:Nat)(F D:Np)(xs:List V)(v:V)(S:St):Prop:=(∃b,v=.sl b xs)∨Gw sz n0 w F D xs v S
theorem Gw.flatV{sz n0 w:Nat}{F D:Np}{xs:List V}{v:V}{S:St}(h:Gw sz n0 w F D xs v S):v.cells=[v]∧v.flat=true∧v.size=1:=by
 rcases h with ⟨rfl,rfl⟩|⟨l,wr,h1,h2,rfl,h4,h5⟩ <;> exact ⟨rfl,rfl,rfl⟩
theorem Gx.flatV{sz n0 w:Nat}{F D:Np}{xs:List V}{v:V}{S:St}(h:Gx sz n0 w F D xs v S):v.cells=[v]∧v.flat=true∧v.size=1:=by
 rcases h with ⟨b,rfl⟩| h
 ·exact ⟨rfl,rfl,rfl⟩
 ·exact h.flatV
theorem Gw.ne{sz sz' n0 n0' w w':Nat}{F D F' D':Np}{xs xs':List V}{v v':V}{S:St}(h:Gw sz n0 w F D xs v S)(h':Gw sz' n0' w' F' D' xs' v' S)(hs:sz≠sz'):∀l a b c a' b' c',v=.arr l a b c→v'≠.arr l a' b' c':=by
 rintro l a b c a' b' c' rfl rfl;rcases h with ⟨_,h⟩|⟨l',wr,h1,h2,h3,h4,h5⟩
 ·cases h
 ·cases h3;rcases h' with ⟨_,h⟩|⟨l',wr',g1,g2,g3,g4,g5⟩
  ·cases h
  ·cases g3;rw[h4] at g4;cases g4;exact hs rfl
theorem Gx.ne{sz sz' n0 n0' w w':Nat}{F D F' D':Np}{xs xs':List V}{v v':V}{S:St}(h:Gx sz n0 w F D xs v S)(h':Gx sz' n0' w' F' D' xs' v' S)(hs:sz≠sz'):∀l a b c a' b' c',v=.arr l a b c→v'≠.arr l a' b' c':=by
 intro l a b c a' b' c' hv hv';rcases h with ⟨_,h⟩| h
 ·rw[hv] at h;cases h
 ·rcases h' with ⟨_,h'⟩|h'
  ·rw[hv'] at h';cases h'
  ·exact h.ne h' hs l a b c a' b' c' hv hv'
def Nf(rf v:V):Prop:=∀l a b c,rf=.arr l a b c→∀xs wr,v.frz l xs wr=v
theorem Nf.under{rf v:V}(h:v.under 0=true):Nf rf v:=fun _ _ _ _ _ _ _=>V.frz_id v h
theorem Nf.gx{sz sz' n0 n0' w w':Nat}{F D F' D':Np}{xs xs':List V}{v v':V}{S:St}(h:Gx sz n0 w F D xs v S)(h':Gx sz' n0' w' F' D' xs' v' S)(hs:sz≠sz')(hx:V.underL 0 xs'=true):Nf v v':=by
 intro l a b c hv ys wr;rcases h' with ⟨b',rfl⟩|h'
 ·exact V.frz_id _ (by simpa[V.under] using hx)
 ·rcases h' with ⟨_,rfl⟩|⟨l',wr',g1,g2,rfl,g4,g5⟩
  ·rfl
  ·have:=h.ne (sz':=sz') (n0':=n0') (w':=w') (F':=F') (D':=D') (xs':=xs') (v':=.arr l' 0 xs'.length xs'.length) (.inr (.inr ⟨l',wr',g1,g2,rfl,g4,g5⟩)) hs l a b c 0 xs'.length xs'.length hv;simp only[V.frz];rw[if_neg];rintro ⟨rfl,_⟩;exact this rfl
theorem Gx.other{sz n0 w:Nat}{F D:Np}{xs:List V}{v:V}{S U:St}(h:Gx sz n0 w F D xs v S)(hk:∀l o,S[l]?=some o→(∀a b c,v=.arr l a b c→U[l]?=some o)):Gx sz n0 w F D xs v U:=h.imp id fun h=>h.other hk
theorem Gx.frz{w:Nat}{P:Np→Np→St→Prop}(fm:Frm w P){sz n0:Nat}{F0 D0 F D:Np}{xs:List V}{rf:V}{S0 U:St}(h:Gx sz n0 w F D xs rf U)(k:P F D U)(s:Stp w F0 D0 S0 F D U)(hn:S0.length≤n0)(hx:V.underL 0 xs=true)(hw:V.weakL xs=xs):
  ∃rf' U',rf'.under 0=true∧rf'.weak=.sl false xs∧(∀a b,(∀v,v∈a→Nf rf v)→(∀v,v∈b→Nf rf v)→zg S0.length (.agg (a++rf::b)) U (.agg (a++rf'::b)) U')∧P F D U'∧Stp w F0 D0 S0 F D U'∧
   ∀l o,U[l]?=some o→(∀a b c,rf≠.arr l a b c)→U'[l]?=some o:=by
 have pure:∀b,rf=.sl b xs→_:=fun b hb=>(⟨rf,U,by rw[hb];simpa[V.under] using hx,by rw[hb];simp[V.weak,hw],fun _ _ _ _=>zg.refl _ _ _,k,s,fun l o ho _=>ho⟩:
  ∃rf' U',rf'.under 0=true∧rf'.weak=.sl false xs∧(∀a b,(∀v,v∈a→Nf rf v)→(∀v,v∈b→Nf rf v)→zg S0.length (.agg (a++rf::b)) U (.agg (a++rf'::b)) U')∧P F D U'∧Stp w F0 D0 S0 F D U'∧
   ∀l o,U[l]?=some o→(∀a b c,rf≠.arr l a b c)→U'[l]?=some o)
 rcases h with ⟨b,rfl⟩| h
 ·exact pure b rfl
 rcases h with ⟨rfl,rfl⟩|⟨l,wr,h1,h2,rfl,h3,h4⟩
 ·exact pure true rfl
 ·refine ⟨.sl false xs,U.set l .dead,by simpa[V.under] using hx,by simp[V.weak,hw],fun a b ha hb=>?_,fm.set k _ h2,s.set _ (by omega),fun l' o ho hne=>?_⟩
  ·have g1:=zg.freezeV (n:=S0.length) (r:=.agg (a++.arr l 0 xs.length xs.length::b)) h3
   have hz:V.frz l xs wr (.agg (a++.arr l 0 xs.length xs.length::b))=.agg (a++.sl false xs::b):=by
    have ea:a.map (V.frz l xs wr)=a:=by
     conv=>rhs;rw[←List.map_id a]
     exact qqX fun v hv=>ha v hv l _ _ _ rfl xs wr
    have eb:b.map (V.frz l xs wr)=b:=by
     conv=>rhs;rw[←List.map_id b]
     exact qqX fun v hv=>hb v hv l _ _ _ rfl xs wr
    simp only[V.frz,yZ,qqe,qqd];rw[ea,eb,if_pos (by simp[h4])];simp
   rw[hz] at g1;exact g1
  ·rw[qpX (by rintro rfl;exact hne _ _ _ rfl)];exact ho
theorem qoo{w:Nat}{P:Np→Np→St→Prop}(fm:Frm w P){n0 n1:Nat}{F0 D0 F D:Np}{S0 U:St}{kd ty:Int}{ow:Bool}{nm:List Bz}{ex:List Ex}{fo:List Fo}{bo:List Sm}{nv fv:V}{c:Nat}{e:Env}{o:Nat}(hc:U[o]?=some (.arr [.agg [.int .i64 kd,.bool ow,.int .i64 ty,nv,.sl false (ex.map Ex.v),fv,.sl false (bo.map Sm.v)]] 7 1))(he:e.get c=some (.ptr o 0 0 1))
  (h1:Gx 1 n0 w F D (nm.map .str) nv U) (h2:Gx 4 n1 w F D (fo.map Fo.v) fv U) (hn:S0.length≤n0) (hn':S0.length≤n1) (k:P F D U) (s:Stp w F0 D0 S0 F D U):
  Z4 [.cell c (some 7)] S0.length (fun r U=>Rd' w P F0 D0 S0 (De.mk kd ow ty nm ex fo bo).v r U) .ret e U:=by
 obtain ⟨nv',U1,a1,a2,a3,a4,a5,a6⟩:=h1.frz fm k s hn (by simpa[V.under] using YH false nm) (kx nm);have h2':Gx 4 n1 w F D (fo.map Fo.v) fv U1:=h2.other fun l o ho a b c hv=>a6 l o ho fun a' b' c' hh=>h1.ne h2 (by omega) l a' b' c' a b c hh hv
 obtain ⟨fv',U2,b1,b2,b3,b4,b5,b6⟩:=h2'.frz fm a4 a5 hn' (by simpa[V.under] using vl_under Fo.v_under false fo) (wFo fo)
 have g1:=a3 [.int .i64 kd,.bool ow,.int .i64 ty] [.sl false (ex.map Ex.v),fv,.sl false (bo.map Sm.v)] (by
  intro v hv;simp at hv
  rcases hv with rfl|rfl|rfl <;> exact Nf.under rfl) (by
  intro v hv;simp only[qqk,qrc,or_false] at hv;rcases hv with rfl|rfl|rfl
  ·exact Nf.under (vl_under Ex.v_under _ _)
  ·exact Nf.gx h1 h2 (by omega) (by simpa[V.under] using vl_under Fo.v_under false fo)
  ·exact Nf.under (vl_under Sm.v_under _ _))
 have g2:=b3 [.int .i64 kd,.bool ow,.int .i64 ty,nv',.sl false (ex.map Ex.v)] [.sl false (bo.map Sm.v)] (by
  intro v hv;simp only[qqk,qrc,or_false] at hv;rcases hv with rfl|rfl|rfl|rfl|rfl
  ·exact Nf.under rfl
  ·exact Nf.under rfl
  ·exact Nf.under rfl
  ·exact Nf.under a1
  ·exact Nf.under (vl_under Ex.v_under _ _)) (by
  intro v hv;simp only[qqk,qrc,or_false] at hv;subst hv;exact Nf.under (vl_under Sm.v_under _ _))
 simp only[qp7,qqn] at g1 g2;refine ⟨[_],by simp only[rvs,he,ldS,hc];rfl,_,U2,(g1.trans g2).trans zg.weak,?_,F,D,b4,b5⟩;simp only[V.weak,V.weakL,a2,b2,wEx,wSm,De.v_eq];rfl
theorem qoH{w:Nat}{P:Np→Np→St→Prop}(fm:Frm w P){n0 n1 n2:Nat}{F0 D0 F D:Np}{S0 U:St}{kd:Int}{tx:Bz}{lb:List Bz}{tg ex:List Ex}{el:List El}{de:List De}{bo:List Sm}{lv ev dv:V}{c:Nat}{e:Env}{o:Nat}(hc:U[o]?=some (.arr [.agg [lv,.int .i64 kd,.str tx,.sl false (tg.map Ex.v),.sl false (ex.map Ex.v),ev,dv,.sl false (bo.map Sm.v)]] 8 1))(he:e.get c=some (.ptr o 0 0 1))
  (h1:Gx 1 n0 w F D (lb.map .str) lv U) (h2:Gx 2 n1 w F D (el.map El.v) ev U) (h3:Gx 7 n2 w F D (de.map De.v) dv U) (hn:S0.length≤n0) (hn':S0.length≤n1) (hn'':S0.length≤n2) (k:P F D U) (s:Stp w F0 D0 S0 F D U):
  Z4 [.cell c (some 8)] S0.length (fun r U=>Rd' w P F0 D0 S0 (Sm.mk lb kd tx tg ex el de bo).v r U) .ret e U:=by
 have ul:V.underL 0 (lb.map .str)=true:=by simpa[V.under] using YH false lb
 have ue:V.underL 0 (el.map El.v)=true:=by simpa[V.under] using vl_under El.v_under false el
 have ud:V.underL 0 (de.map De.v)=true:=by simpa[V.under] using vl_under De.v_under false de
 obtain ⟨lv',U1,a1,a2,a3,a4,a5,a6⟩:=h1.frz fm k s hn ul (kx lb);have h2':Gx 2 n1 w F D (el.map El.v) ev U1:=h2.other fun l o ho a b c hv=>a6 l o ho fun a' b' c' hh=>h1.ne h2 (by omega) l a' b' c' a b c hh hv
 have h3':Gx 7 n2 w F D (de.map De.v) dv U1:=h3.other fun l o ho a b c hv=>a6 l o ho fun a' b' c' hh=>h1.ne h3 (by omega) l a' b' c' a b c hh hv
 obtain ⟨ev',U2,b1,b2,b3,b4,b5,b6⟩:=h2'.frz fm a4 a5 hn' ue (wEl el);have h3'':Gx 7 n2 w F D (de.map De.v) dv U2:=h3'.other fun l o ho a b c hv=>b6 l o ho fun a' b' c' hh=>h2'.ne h3' (by omega) l a' b' c' a b c hh hv
 obtain ⟨dv',U3,c1,c2,c3,c4,c5,c6⟩:=h3''.frz fm b4 b5 hn'' ud (wDe de)
 have g1:=a3 [] [.int .i64 kd,.str tx,.sl false (tg.map Ex.v),.sl false (ex.map Ex.v),ev,dv,.sl false (bo.map Sm.v)] (by intro v hv;simp at hv) (by
  intro v hv;simp only[qqk,qrc,or_false] at hv;rcases hv with rfl|rfl|rfl|rfl|rfl|rfl|rfl
  ·exact Nf.under rfl
  ·exact Nf.under rfl
  ·exact Nf.under (vl_under Ex.v_under _ _)
  ·exact Nf.under (vl_under Ex.v_under _ _)
  ·exact Nf.gx h1 h2 (by omega) ue
  ·exact Nf.gx h1 h3 (by omega) ud
  ·exact Nf.under (vl_under Sm.v_under _ _))
 have g2:=b3 [lv',.int .i64 kd,.str tx,.sl false (tg.map Ex.v),.sl false (ex.map Ex.v)] [dv,.sl false (bo.map Sm.v)] (by
  intro v hv;simp only[qqk,qrc,or_false] at hv;rcases hv with rfl|rfl|rfl|rfl|rfl
  ·exact Nf.under a1
  ·exact Nf.under rfl
  ·exact Nf.under rfl
  ·exact Nf.under (vl_under Ex.v_under _ _)
  ·exact Nf.under (vl_under Ex.v_under _ _)) (by
  intro v hv;simp only[qqk,qrc,or_false] at hv;rcases hv with rfl|rfl
  ·exact Nf.gx h2' h3' (by omega) ud
  ·exact Nf.under (vl_under Sm.v_under _ _))
 have g3:=c3 [lv',.int .i64 kd,.str tx,.sl false (tg.map Ex.v),.sl false (ex.map Ex.v),ev'] [.sl false (bo.map Sm.v)] (by
  intro v hv;simp only[qqk,qrc,or_false] at hv;rcases hv with rfl|rfl|rfl|rfl|rfl|rfl
  ·exact Nf.under a1
  ·exact Nf.under rfl
  ·exact Nf.under rfl
  ·exact Nf.under (vl_under Ex.v_under _ _)
  ·exact Nf.under (vl_under Ex.v_under _ _)
  ·exact Nf.under b1) (by
  intro v hv;simp only[qqk,qrc,or_false] at hv;subst hv;exact Nf.under (vl_under Sm.v_under _ _))
 simp only[qp7,qqn] at g1 g2 g3;refine ⟨[_],by simp only[rvs,he,ldS,hc];rfl,_,U3,((g1.trans g2).trans g3).trans zg.weak,?_,F,D,c4,c5⟩;simp only[V.weak,V.weakL,a2,b2,c2,wEx,wSm,Sm.v_eq];rfl
theorem Gw.neC{sz sz' n0 w k wr:Nat}{F D:Np}{xs ys:List V}{v:V}{S:St}(h:Gw sz n0 w F D xs v S)(hk:S[k]?=some (.arr ys sz' wr))(hs:sz≠sz'):∀a b c,v≠.arr k a b c:=by
 rintro a b c rfl;rcases h with ⟨_,h⟩|⟨l',wr',h1,h2,h3,h4,h5⟩
 ·cases h
 ·cases h3;rw[hk] at h4;cases h4;exact hs rfl
theorem Gw.setC{sz sz' n0 w k wr:Nat}{F D:Np}{xs ys:List V}{v:V}{S:St}(h:Gw sz n0 w F D xs v S)(hk:S[k]?=some (.arr ys sz' wr))(hs:sz≠sz')(o:Ob):Gw sz n0 w F D xs v (S.set k o):=
 by
 rcases h with h|⟨l,wr',h1,h2,h3,h4,h5⟩
 ·exact .inl h
 ·exact .inr ⟨l,wr',h1,h2,h3,by rw[qpX (by rintro rfl;rw[hk] at h4;cases h4;exact hs rfl)];exact h4,h5⟩
structure Cx(w sz:Nat)(P:Np→Np→St→Prop)(F D:Np)(S:St)(x z y:V)(F' D':Np)(U:St):Prop where
 rk:P F' D' U
 st:Stp w F D S F' D' U
 b0:U[S.length]?=some (.arr [x] sz 1)
 b1:U[S.length+1]?=some (.arr [z] sz 1)
 b2:U[S.length+2]?=some (.arr [y] sz 1)
 o0:Off w F' D' S.length
 o1:Off w F' D' (S.length+1)
 o2:Off w F' D' (S.length+2)
section
variable {w sz:Nat} {P P2:Np→Np→St→Prop} {F D F' D' F2 D2:Np} {S U U2:St} {x z y:V}
theorem Cx.call(c:Cx w sz P F D S x z y F' D' U)(k:P2 F2 D2 U2)(s:Stp w F' D' U F2 D2 U2):Cx w sz P2 F D S x z y F2 D2 U2:=
 ⟨k,c.st.trans s,s.at c.o0 c.b0,s.at c.o1 c.b1,s.at c.o2 c.b2,c.o0.next (glt c.b0) s,c.o1.next (glt c.b1) s,c.o2.next (glt c.b2) s⟩
theorem Cx.app(c:Cx w sz P F D S x z y F' D' U){gv:V}(k:P F' D' U2)(s:Stp w F D S F' D' U2)(ho:∀l o,U[l]?=some o→(∀a b c,gv≠.arr l a b c)→U2[l]?=some o)(hg:∀k ys wr,U[k]?=some (.arr ys sz wr)→∀a b c,gv≠.arr k a b c):Cx w sz P F D S x z y F' D' U2:=
 ⟨k,s,ho _ _ c.b0 (hg _ _ _ c.b0),ho _ _ c.b1 (hg _ _ _ c.b1),ho _ _ c.b2 (hg _ _ _ c.b2),c.o0,c.o1,c.o2⟩
theorem Cx.put(fm:Frm w P)(c:Cx w sz P F D S x z y F' D' U)(y':V):Cx w sz P F D S x z y' F' D' (U.set (S.length+2) (.arr [y'] sz 1)):=
 ⟨fm.set c.rk _ c.o2,c.st.set _ (by omega),by rw[qpX (by omega)];exact c.b0,by rw[qpX (by omega)];exact c.b1,qpW (glt c.b2),c.o0,c.o1,c.o2⟩
theorem Cx.push(fm:Frm w P)(c:Cx w sz P F D S x z y F' D' U)(os:List Ob):Cx w sz P F D S x z y F' D' (U++os):=
 ⟨fm.push c.rk _,c.st.push _,gpp c.b0,gpp c.b1,gpp c.b2,c.o0,c.o1,c.o2⟩
end
def IvL(len:Nat)(A:Nat→V→Np→Np→St→Prop)(env:Nat→V→Env)(j:Nat)(e:Env)(U:St):Prop:=∃(i:Nat) (gv:V) (F' D':Np),j=len - i∧i≤len∧A i gv F' D' U∧e=env i gv
def IvW(A:V→Np→Np→St→Prop)(env:V→Env)(e:Env)(U:St):Prop:=∃(gv:V) (F' D':Np),A gv F' D' U∧Env.sub (env gv) e
abbrev deZ:V:=.agg [.int .i64 0,.bool false,.int .i64 0,.sl true [],.sl true [],.sl true [],.sl true []]
abbrev deA(d:De)(nv ev fv bv:V):V:=.agg [.int .i64 d.kind,.bool d.own,.int .i64 d.type,nv,ev,fv,bv]
theorem De.rw_eq(r:Rp)(own sc:Scs)(n:Nat)(d:De):d.rw r own sc n=if d.kind=4 then .mk d.kind d.own d.type (d.names.map (yH r own)) (Ex.rwl r own d.exps) (d.formals.map (Fo.rw r (qd (d.formals.map Fo.name) n::own))) (Sm.rw1 r (qd (d.formals.map Fo.name) n::own) (n+(qd (d.formals.map Fo.name) n).length) d.body)
  else .mk d.kind d.own d.type (d.names.map (yH r own)) (Ex.rwl r (if d.kind=2 then sc else own) d.exps) d.formals d.body:=by
 cases d;rw[De.rw];rfl
theorem De.rs_eq(r:Rp)(own sc:Scs)(n:Nat)(st:Rst)(d:De):d.rs r own sc n st=if d.kind=4 then Sm.rs1 r (qd (d.formals.map Fo.name) n::own) (n+(qd (d.formals.map Fo.name) n).length) (Ex.rsl r own st d.exps) d.body
  else Ex.rsl r (if d.kind=2 then sc else own) st d.exps:=by
 cases d;rw[De.rs];rfl
theorem De.bn_eq(d:De):d.bn=if d.kind=4 then nms (d.formals.map Fo.name)++Sm.bn1 d.body else []:=by
 cases d;rw[De.bn];rfl
theorem map_take{α β:Type}(f:α→β)(l:List α)(i:Nat)(h:i<l.length):(l.take (i+1)).map f=(l.take i).map f++[f l[i]]:=by
 rw[qp9,qpZ h,qqx,qqe];rfl
theorem yL{U:St}{l sz:Nat}{cs:List V}{j:Nat}{v:V}(h:U[l]?=some (.arr [.agg cs] sz 1))(hv:v.cells=[v]∧v.flat=true∧v.size=1)(hj:j+1≤cs.length)(hc:cs.length≠1):stS U (.ptr l 0 j 1) 1 v=some (U.set l (.arr [.agg (cs.take j++v::cs.drop (j+1))] sz 1)):=by
 have h0:¬ (j=0∧1=cs.length):=fun hh=>hc hh.2.symm
 simp[stS,h,qc,hv.1,hv.2.1,hv.2.2,hj,h0]
theorem Gx.setC{sz sz' n0 w k wr:Nat}{F D:Np}{xs ys:List V}{v:V}{S:St}(h:Gx sz n0 w F D xs v S)(hk:S[k]?=some (.arr ys sz' wr))(hs:sz≠sz')(o:Ob):Gx sz n0 w F D xs v (S.set k o):=h.imp id fun h=>h.setC hk hs o
theorem Gw.nr{n0 w:Nat}{F D:Np}{names:List Bz}{v:V}{S:St}(h:Gw 1 n0 w F D (names.map .str) v S):Nr w F D names v S:=by
 rcases h with ⟨h1,rfl⟩|⟨l,wr,h1,h2,rfl,h4,h5⟩
 ·rw[List.map_eq_nil_iff] at h1;subst h1;exact .inl ⟨true,rfl⟩
 ·rw[qp2] at h5 ⊢;exact .inr ⟨l,wr,h2,rfl,h4,h5⟩
theorem qee(r:Rp)(ho:RpOk r)(bf bt:Bool)(w:Nat)(fv:V)(d:De)(H:∀s,s∈d.body→qkY r bf bt w fv s)(hsz:(Pa.de d).size≤4000)(bound:List Bz)(st:Rst)(F D:Np)(S:St)(b b':Bool)(sc own:Scs)(hk:Rk r bf bt w fv bound st F D S)(ok:Okw bound st own d.nb (Pa.de d).size)(hd:ScD sc)(hfl:(Scs.flat sc).length≤bound.length):
  qB prog 230 [.ptr w 0 0 1,d.v,.sl b ((Scs.flat sc).map yj),.sl b' ((Scs.flat own).map yj)] S (fun v U=>Rd' w (Rk r bf bt w fv (bound++d.bn) (d.rs r own sc bound.length st)) F D S (d.rw r own sc bound.length).v v U):=by
 refine qB.ib func230 ok230 ?_;have hparts:=De.size_parts d;have hbo:=ok.bo;have hfr:=ok.fr;have hof:=ok.fl;rw[De.rw_eq,De.rs_eq,De.bn_eq];rw[De.nb_eq] at hbo;have fm:=fun bo s=>Rk.frm r bf bt w fv bo s
 obtain ⟨ev,hev⟩:∃ev,ev=V.sl false (d.exps.map Ex.v):=⟨_,rfl⟩;obtain ⟨fv0,hfv0⟩:∃fv0,fv0=V.sl false (d.formals.map Fo.v):=⟨_,rfl⟩;obtain ⟨bv,hbv⟩:∃bv,bv=V.sl false (d.body.map Sm.v):=⟨_,rfl⟩;obtain ⟨S2,hS2⟩:∃S2:St,S2=S++[.arr [d.v] 7 1,.arr [deZ] 7 1,.arr [deA d (.sl true []) ev fv0 bv] 7 1]:=⟨_,rfl⟩
 have C0:Cx w 7 (Rk r bf bt w fv bound st) F D S d.v deZ (deA d (.sl true []) ev fv0 bv) F D S2:=by
  refine ⟨by rw[hS2];exact (fm _ _).push hk _,by rw[hS2];exact (Stp.refl _ _ _ _).push _,?_,?_,?_,(fm _ _).out hk (by omega),(fm _ _).out hk (by omega),(fm _ _).out hk (by omega)⟩
  all_goals rw[hS2,qpV (by omega)];simp
 have fin:∀{bo s F' D' U} (nm:List Bz) (ex:List Ex) (fo:List Fo) (bd:List Sm) (nv fx:V),Cx w 7 (Rk r bf bt w fv bo s) F D S d.v deZ (deA d nv (.sl false (ex.map Ex.v)) fx (.sl false (bd.map Sm.v))) F' D' U→Gx 1 S.length w F' D' (nm.map .str) nv U→Gx 4 S.length w F' D' (fo.map Fo.v) fx U→
   ldS U (.ptr (S.length+2) 0 0 1) (some 7)=some (deA d nv (.sl false (ex.map Ex.v)) fx (.sl false (bd.map Sm.v)))∧∃U',stS U (.ptr (S.length+1) 0 0 1) 7 (deA d nv (.sl false (ex.map Ex.v)) fx (.sl false (bd.map Sm.v)))=some U'∧
   ∀e:Env,e.get 8=some (.ptr (S.length+1) 0 0 1)→Z4 [.cell 8 (some 7)] S.length (fun v U=>Rd' w (Rk r bf bt w fv bo s) F D S (De.mk d.kind d.own d.type nm ex fo bd).v v U) .ret e U':=by
  intro bo s F' D' U nm ex fo bd nv fx hC h1 h2;have f1:=h1.flatV;have f2:=h2.flatV;have hl:∀x:V,x.flat=true→True:=fun _ _=>trivial
  refine ⟨by simp[ldS,hC.b2,qf],U.set (S.length+1) (.arr [deA d nv (.sl false (ex.map Ex.v)) fx (.sl false (bd.map Sm.v))] 7 1),by simp[stS,hC.b1,qc,f1.2.1,f2.2.1],fun e he=>?_⟩;exact qoo (fm bo s) (qpW (glt hC.b1)) he (h1.setC hC.b1 (by omega) _) (h2.setC hC.b1 (by omega) _) (qp0 _) (qp0 _) ((fm bo s).set hC.rk _ hC.o1) (hC.st.set _ (by omega))
 simp[c230,qw,evX,stS,ldS,jI,qc];rw[←hev,←hfv0,←hbv];rw[←hS2];obtain ⟨A,hA⟩:∃A:Nat→V→Np→Np→St→Prop,∀i gv F' D' U,A i gv F' D' U↔(Cx w 7 (Rk r bf bt w fv bound st) F D S d.v deZ (deA d gv ev fv0 bv) F' D' U∧Gw 1 S.length w F' D' (((d.names.take i).map (yH r own)).map .str) gv U):=⟨_,fun _ _ _ _ _=>Iff.rfl⟩;refine qE (IvW (A d.names.length) fun _=>[(0,.ptr w 0 0 1),(2,.sl b ((Scs.flat sc).map yj)),(3,.sl b' ((Scs.flat own).map yj)),(5,.ptr S.length 0 0 1),(8,.ptr (S.length+1) 0 0 1),(9,.ptr (S.length+2) 0 0 1)]) ?_ ?_
 ·refine qq (IvL d.names.length A fun i _=>[(10,.int .i64 i),(0,.ptr w 0 0 1),(2,.sl b ((Scs.flat sc).map yj)),(3,.sl b' ((Scs.flat own).map yj)),(5,.ptr S.length 0 0 1),(8,.ptr (S.length+1) 0 0 1),(9,.ptr (S.length+2) 0 0 1)]) d.names.length _ ?_ ⟨0,_,F,D,by simp,by omega,(hA _ _ _ _ _).2 ⟨C0,Gw.nil _ _ _ _ _ _⟩,rfl⟩ ?_
  ·exact Env.so (by simp)
  rintro j e U ⟨i,gv,F1,D1,rfl,hi,hI,rfl⟩;obtain ⟨hC,hg⟩:=(hA _ _ _ _ _).1 hI;have hn:ldS U (.ptr S.length 0 3 1) none=some (.sl false (d.names.map .str)):=by simp[ldS,hC.b0]
  by_cases hlt:i<d.names.length
  ·have hia:=Q4 hlt false U;have hgv:ldS U (.ptr (S.length+2) 0 3 1) none=some gv:=by simp[ldS,hC.b2]
   have hfs:fits 1 [V.str (yH r own d.names[i])]=true:=rfl;obtain ⟨gv',U2,ha,hg2,k2,s2,a5,a6⟩:=hg.app1F (fm bound st) (bytes:=16) (b:=true) (y:=.str (yH r own d.names[i])) hC.rk hC.st hfs (by simp;omega);have C2:=hC.app (gv:=gv) k2 s2 a5 fun k ys wr hk'=>hg.neC hk' (by omega)
   have hst:=yL (j:=3) C2.b2 hg2.flatV (by simp) (by simp);simp only[List.take,List.drop,qp7,qqn] at hst;have C3:=C2.put (fm bound st) (deA d gv' ev fv0 bv);have hg3:=hg2.setC C2.b2 (by omega) (.arr [deA d gv' ev fv0 bv] 7 1);have hm:((d.names.take (i+1)).map (yH r own)).map V.str=((d.names.take i).map (yH r own)).map .str++[.str (yH r own d.names[i])]:=by rw[map_take _ _ _ hlt,qqe];rfl
   rw[←hm] at hg3;simp[hn,hlt,hgv,hia,zk];refine zt (kM r bf bt w fv bound st F1 D1 U hC.rk b' own ok.nd (by omega) d.names[i]) ?_;simp[hfs,ha,hst];simp[Qd,zA,zK,hgv];simp[qO (n:=(i:Int)+1)];refine ⟨_,?_,_,?_,i+1,gv',F1,D1,rfl,by omega,(hA _ _ _ _ _).2 ⟨C3,hg3⟩,rfl⟩
   ·omega
   ·exact Env.so (by simp)
  ·have:i=d.names.length:=by omega
   subst this;simp[hn];refine ⟨gv,F1,D1,hI,?_⟩;exact Env.so (by simp)
 rintro e U ⟨gv,F0,D0,hI,hsub⟩;obtain ⟨hC,hg⟩:=(hA _ _ _ _ _).1 hI;rw[qqo] at hg;have g0:e.get 0=_:=hsub 0 _ rfl;have g2:e.get 2=_:=hsub 2 _ rfl;have g3:e.get 3=_:=hsub 3 _ rfl;have g5:e.get 5=_:=hsub 5 _ rfl;have g8:e.get 8=_:=hsub 8 _ rfl;have g9:e.get 9=_:=hsub 9 _ rfl;have hkd:ldS U (.ptr S.length 0 0 1) none=some (.int .i64 d.kind):=by simp[ldS,hC.b0]
 have hxd:ldS U (.ptr S.length 0 4 1) none=some ev:=by rw[hev];simp[ldS,hC.b0]
 by_cases h2:d.kind=2
 ·have h4:d.kind≠4:=by omega
  rw[if_neg h4,if_neg h4,if_neg h4,if_pos h2,qqV];simp[g0,g2,g5,g9,hkd,hxd,h2];rw[hev];refine qm (jd r ho bf bt w fv d.exps (by omega) bound st F0 D0 U false b sc hC.rk hd (by omega) (by omega)) ?_;rintro v U2 ⟨rfl,F1,D1,k1,s1⟩;have C1:=hC.call k1 s1;have hst:=yL (j:=4) (v:=.sl false ((Ex.rwl r sc d.exps).map Ex.v)) C1.b2 ⟨rfl,rfl,rfl⟩ (by simp) (by simp);simp only[List.take,List.drop,qp7,qqn] at hst;have C2:=C1.put (fm _ _) (deA d gv (.sl false ((Ex.rwl r sc d.exps).map Ex.v)) fv0 bv);have hg2:=(hg.step s1).setC C1.b2 (by omega) (.arr [deA d gv (.sl false ((Ex.rwl r sc d.exps).map Ex.v)) fv0 bv] 7 1);subst hbv hfv0;obtain ⟨p1,U3,p2,p3⟩:=fin (d.names.map (yH r own)) (Ex.rwl r sc d.exps) d.formals d.body gv _ C2 (.inr hg2) (.inl ⟨false,rfl⟩);simp[g8,g9,hst,p1,p2]
  first|exact p3 _ g8|(rw[h2] at p3;exact p3 _ g8)
 simp[g0,g3,g5,g9,hkd,hxd,h2];rw[hev];refine qm (jd r ho bf bt w fv d.exps (by omega) bound st F0 D0 U false b' own hC.rk ok.nd (by omega) (by omega)) ?_;rintro v U2 ⟨rfl,F1,D1,k1,s1⟩;have C1:=hC.call k1 s1;obtain ⟨ev1,hev1⟩:∃ev1,ev1=V.sl false ((Ex.rwl r own d.exps).map Ex.v):=⟨_,rfl⟩;have hst:=yL (j:=4) (v:=ev1) C1.b2 (by rw[hev1];exact ⟨rfl,rfl,rfl⟩) (by simp) (by simp);simp only[List.take,List.drop,qp7,qqn] at hst;have C2:=C1.put (fm _ _) (deA d gv ev1 fv0 bv);have hg2:=(hg.step s1).setC C1.b2 (by omega) (.arr [deA d gv ev1 fv0 bv] 7 1);rw[←hev1];obtain ⟨U3,hU3⟩:∃U3,U3=U2.set (S.length+2) (.arr [deA d gv ev1 fv0 bv] 7 1):=⟨_,rfl⟩;rw[←hU3] at hst C2 hg2;have hkd:ldS U3 (.ptr S.length 0 0 1) none=some (.int .i64 d.kind):=by simp[ldS,C2.b0]
 by_cases h4:d.kind=4
 case neg=>
  rw[if_neg h4,if_neg h4,if_neg h4,qqV]
  try simp only[if_neg h2]
  subst hbv hfv0 hev1;obtain ⟨p1,U4,p2,p3⟩:=fin (d.names.map (yH r own)) (Ex.rwl r own d.exps) d.formals d.body gv _ C2 (.inr hg2) (.inl ⟨false,rfl⟩);simp[g5,g8,g9,hst,hkd,h4,p1,p2];exact p3 _ g8
 rw[if_pos h4,if_pos h4,if_pos h4];rw[if_pos h4] at hbo;unfold De.prN at hbo;obtain ⟨st1,hst1⟩:∃st1,st1=Ex.rsl r own st d.exps:=⟨_,rfl⟩;have hst1l:=Ex.rsl_len r own d.exps st;rw[←hst1] at C2 hst1l ⊢;simp[g5,g9,hst,hkd,h4];obtain ⟨names,hnames⟩:∃names,names=d.formals.map Fo.name:=⟨_,rfl⟩;have hnl:names.length=d.formals.length:=by rw[hnames];simp
 obtain ⟨B,hB⟩:∃A:Nat→V→Np→Np→St→Prop,∀i hv F' D' U,A i hv F' D' U↔(Cx w 7 (Rk r bf bt w fv bound st1) F D S d.v deZ (deA d gv ev1 fv0 bv) F' D' U∧Gw 1 S.length w F' D' ((d.names.map (yH r own)).map .str) gv U∧Gw 1 S.length w F' D' (((d.formals.take i).map Fo.name).map .str) hv U∧JR hv gv):=⟨_,fun _ _ _ _ _=>Iff.rfl⟩;refine qE (IvW (B d.formals.length) fun hv=>[(11,hv),(0,.ptr w 0 0 1),(3,.sl b' ((Scs.flat own).map yj)),(5,.ptr S.length 0 0 1),(8,.ptr (S.length+1) 0 0 1),(9,.ptr (S.length+2) 0 0 1)]) ?_ ?_
 ·refine qq (IvL d.formals.length B fun i hv=>[(12,.int .i64 i),(11,hv),(0,.ptr w 0 0 1),(3,.sl b' ((Scs.flat own).map yj)),(5,.ptr S.length 0 0 1),(8,.ptr (S.length+1) 0 0 1),(9,.ptr (S.length+2) 0 0 1)]) d.formals.length _ ?_ ⟨0,_,F1,D1,by simp,by omega,(hB _ _ _ _ _).2 ⟨C2,hg2,Gw.nil _ _ _ _ _ _,fun l a b c hh=>V.noConfusion hh⟩,rfl⟩ ?_
  ·repeat' first|exact Env.sub_nil _|refine Env.sub_cons (by simp[g0,g3,g5,g8,g9]) ?_
  rintro j e U ⟨i,hv,F1,D1,rfl,hi,hI,rfl⟩;obtain ⟨hC,hg,hh,hdf⟩:=(hB _ _ _ _ _).1 hI;have hn:ldS U (.ptr S.length 0 5 1) none=some (.sl false (d.formals.map Fo.v)):=by simp[ldS,hC.b0]
  by_cases hlt:i<d.formals.length
  ·have hia:=qhs hlt false U;have hfs:fits 1 [V.str d.formals[i].name]=true:=rfl;obtain ⟨hv',U2,ha,hh2,k2,s2,a5,a6⟩:=hh.app1F (fm bound st1) (bytes:=16) (b:=true) (y:=.str d.formals[i].name) hC.rk hC.st hfs (by simp;omega);have C2:=hC.app (gv:=hv) k2 s2 a5 fun k ys wr hk'=>hh.neC hk' (by omega)
   have hg':=hg.other fun l o ho a b c hv'=>a5 l o ho fun a' b' c' hh=>hdf l a' b' c' hh a b c hv'
   have hm:((d.formals.take (i+1)).map Fo.name).map V.str=((d.formals.take i).map Fo.name).map .str++[.str d.formals[i].name]:=by rw[map_take _ _ _ hlt,qqe];rfl
   rw[←hm] at hh2;have glt':=hg.lt
   have df2:JR hv' gv:=fun l a b c hh a' b' c' hg=>by
    rcases a6 l a b c hh with h1|h1
    ·exact hdf l _ _ _ h1 _ _ _ hg
    ·have:=glt' l _ _ _ hg;omega
   simp[hn,hlt,hia,hfs,ha,qO (n:=(i:Int)+1)];refine ⟨_,?_,_,?_,i+1,hv',F1,D1,rfl,by omega,(hB _ _ _ _ _).2 ⟨C2,hg',hh2,df2⟩,rfl⟩
   ·omega
   ·exact Env.so (by simp)
  ·have:i=d.formals.length:=by omega
   subst this;simp[hn];refine ⟨hv,F1,D1,hI,?_⟩;exact Env.so (by simp)
 clear hsub g0 g2 g3 g5 g8 g9;rintro e U4 ⟨hv,F4,D4,hI,hsub⟩;obtain ⟨C4,hg4,hh4,_⟩:=(hB _ _ _ _ _).1 hI;rw[qqo,←hnames] at hh4;have g0:e.get 0=_:=hsub 0 _ rfl;have g3:e.get 3=_:=hsub 3 _ rfl;have g5:e.get 5=_:=hsub 5 _ rfl;have g8:e.get 8=_:=hsub 8 _ rfl;have g9:e.get 9=_:=hsub 9 _ rfl;have g11:e.get 11=_:=hsub 11 _ rfl;simp[g0,g3,g11];refine qm (qb6 r bf bt w fv bound st1 F4 D4 U4 C4.rk b' own names hv hh4.nr (by omega) (by omega)) ?_;rintro v U5 ⟨rfl,F2,D2,k5,s5⟩;have C5:=C4.call k5 s5;have hg5:=hg4.step s5;rw[←hnames];obtain ⟨inner,hinner⟩:∃inner,inner=qd names bound.length::own:=⟨_,rfl⟩;have hbl:(bound++nms names).length=bound.length+(qd names bound.length).length:=by rw[qp8,JT _ bound.length]
 have okw:Okw (bound++nms names) st1 inner (Sm.nb1 d.body) (qF (d.body.map Pa.st)):=by
  rw[hinner];exact Okw.enter (nb:=(qd names 0).length+Sm.nb1 d.body) ⟨ok.nd,hof,by rw[hnames];omega,by omega⟩ names (qp0 _)
 have hfi:=okw.fl;have hbi:=okw.bo;rw[←hinner];have hst5:=yL (j:=5) (v:=.sl true []) C5.b2 ⟨rfl,rfl,rfl⟩ (by simp) (by simp);simp only[List.take,List.drop,qp7,qqn] at hst5;have C6:=C5.put (fm _ _) (deA d gv ev1 (.sl true []) bv);have hg6:=hg5.setC C5.b2 (by omega) (.arr [deA d gv ev1 (.sl true []) bv] 7 1);simp[g9,hst5];obtain ⟨E,hE⟩:∃A:Nat→V→Np→Np→St→Prop,∀i xv F' D' U,A i xv F' D' U↔(Cx w 7 (Rk r bf bt w fv (bound++nms names) st1) F D S d.v deZ (deA d gv ev1 xv bv) F' D' U∧Gw 1 S.length w F' D' ((d.names.map (yH r own)).map .str) gv U∧Gw 4 S.length w F' D' (((d.formals.take i).map (Fo.rw r inner)).map Fo.v) xv U):=⟨_,fun _ _ _ _ _=>Iff.rfl⟩;refine qE (IvW (E d.formals.length) fun _=>[(13,.sl false ((Scs.flat inner).map yj)),(0,.ptr w 0 0 1),(5,.ptr S.length 0 0 1),(8,.ptr (S.length+1) 0 0 1),(9,.ptr (S.length+2) 0 0 1)]) ?_ ?_
 ·refine qq (IvL d.formals.length E fun i _=>[(14,.int .i64 i),(13,.sl false ((Scs.flat inner).map yj)),(0,.ptr w 0 0 1),(5,.ptr S.length 0 0 1),(8,.ptr (S.length+1) 0 0 1),(9,.ptr (S.length+2) 0 0 1)]) d.formals.length _ ?_ ⟨0,_,F2,D2,by simp,by omega,(hE _ _ _ _ _).2 ⟨C6,hg6,Gw.nil _ _ _ _ _ _⟩,rfl⟩ ?_
  ·repeat' first|exact Env.sub_nil _|refine Env.sub_cons (by simp[g0,g3,g5,g8,g9]) ?_
  rintro j e U ⟨i,xv,F2,D2,rfl,hi,hI,rfl⟩;obtain ⟨hC,hg,hx⟩:=(hE _ _ _ _ _).1 hI;have hn:ldS U (.ptr S.length 0 5 1) none=some (.sl false (d.formals.map Fo.v)):=by simp[ldS,hC.b0]
  by_cases hlt:i<d.formals.length
  ·have hia:=qhs hlt false U;obtain ⟨f,hf⟩:∃f,f=d.formals[i]:=⟨_,rfl⟩;rw[←hf] at hia;obtain ⟨f',hf'⟩:∃f',f'=Fo.rw r inner f:=⟨_,rfl⟩;have C7:=hC.push (fm _ _) [.arr [f.v] 4 1];have q:=kM r bf bt w fv (bound++nms names) st1 F2 D2 _ C7.rk false inner okw.nd (by omega) f.name;have C8:=hC.push (fm _ _) [.arr [f'.v] 4 1];have hg8:=hg.push [.arr [f'.v] 4 1];have hx8:=hx.push [.arr [f'.v] 4 1];have hfs:fits 4 [f'.v]=true:=rfl;obtain ⟨xv',U2,ha,hx2,k2,s2,a5,a6⟩:=hx8.app1F (fm _ _) (bytes:=40) (b:=true) (y:=f'.v) C8.rk C8.st hfs (by simp;omega);have C9:=C8.app (gv:=xv) k2 s2 a5 fun k ys wr hk'=>hx8.neC hk' (by omega)
   have hst9:=yL (j:=5) C9.b2 hx2.flatV (by simp) (by simp);simp only[List.take,List.drop,qp7,qqn] at hst9;have C10:=C9.put (fm _ _) (deA d gv ev1 xv' bv);have hx10:=hx2.setC C9.b2 (by omega) (.arr [deA d gv ev1 xv' bv] 7 1);have hg9:=hg8.other fun l o ho a b c hv'=>a5 l o ho fun a' b' c' hh=>(Gx.ne (.inr hx8) (.inr hg8) (by omega)) l a' b' c' a b c hh hv'
   have hg10:=hg9.setC C9.b2 (by omega) (.arr [deA d gv ev1 xv' bv] 7 1);have hm:((d.formals.take (i+1)).map (Fo.rw r inner)).map Fo.v=((d.formals.take i).map (Fo.rw r inner)).map Fo.v++[f'.v]:=by rw[map_take _ _ _ hlt,qqe,hf',hf];rfl
   rw[←hm] at hx10;have hxv:ldS (U++[.arr [f'.v] 4 1]) (.ptr (S.length+2) 0 5 1) none=some xv:=by simp[ldS,C8.b2]
   have hnm:ldS (U++[.arr [f.v] 4 1]) (.ptr U.length 0 0 1) none=some (.str f.name):=by simp[ldS]
   have hst8:stS (U++[.arr [f.v] 4 1]) (.ptr U.length 0 0 1) 1 (.str (yH r inner f.name))=some (U++[.arr [f'.v] 4 1]):=by
    simp[stS,qjq,qc,hf',Fo.rw,Fo.v]
   have hld8:ldS (U++[.arr [f'.v] 4 1]) (.ptr U.length 0 0 1) (some 4)=some f'.v:=by simp[ldS]
   have hst7:stS (U++[.arr [.agg [.str ⟨⟨[]⟩⟩,.bool false,.int .i64 0,.int .i64 0]] 4 1]) (.ptr U.length 0 0 1) 4 f.v=some (U++[.arr [f.v] 4 1]):=by
    simp[stS,qc]
   simp[hn,hlt,hia,qw,evX,hst7,hnm];refine qj q ?_;simp[hst8,hxv,hld8,hfs,ha,hst9,qO (n:=(i:Int)+1)];refine ⟨_,?_,_,?_,i+1,xv',F2,D2,rfl,by omega,(hE _ _ _ _ _).2 ⟨C10,hg10,hx10⟩,rfl⟩
   ·omega
   ·exact Env.so (by simp)
  ·have:i=d.formals.length:=by omega
   subst this;simp[hn];refine ⟨xv,F2,D2,hI,?_⟩;exact Env.so (by simp)
 clear hsub g0 g3 g5 g8 g9 g11;rintro e U7 ⟨xv,F7,D7,hI,hsub⟩;obtain ⟨C7,hg7,hx7⟩:=(hE _ _ _ _ _).1 hI;rw[qqo] at hx7;have g0:e.get 0=_:=hsub 0 _ rfl;have g5:e.get 5=_:=hsub 5 _ rfl;have g8:e.get 8=_:=hsub 8 _ rfl;have g9:e.get 9=_:=hsub 9 _ rfl;have g13:e.get 13=_:=hsub 13 _ rfl;have hbd:ldS U7 (.ptr S.length 0 6 1) none=some (.sl false (d.body.map Sm.v)):=by simp[ldS,C7.b0]
 have q:=jM r bf bt w fv d.body H (by omega) _ st1 F7 D7 U7 false false inner C7.rk okw;simp[g0,g5,g13,hbd];refine qm q ?_;rintro v U8 ⟨rfl,F3,D3,k8,s8⟩;have C8:=C7.call k8 s8;have hst:=yL (j:=6) (v:=.sl false ((Sm.rw1 r inner (bound++nms names).length d.body).map Sm.v)) C8.b2 ⟨rfl,rfl,rfl⟩ (by simp) (by simp);simp only[List.take,List.drop,qp7,qqn] at hst;have C9:=C8.put (fm _ _) (deA d gv ev1 xv (.sl false ((Sm.rw1 r inner (bound++nms names).length d.body).map Sm.v)));have hg9:=(hg7.step s8).setC C8.b2 (by omega) (.arr [deA d gv ev1 xv (.sl false ((Sm.rw1 r inner (bound++nms names).length d.body).map Sm.v))] 7 1);have hx9:=(hx7.step s8).setC C8.b2 (by omega) (.arr [deA d gv ev1 xv (.sl false ((Sm.rw1 r inner (bound++nms names).length d.body).map Sm.v))] 7 1);subst hev1;obtain ⟨p1,U9,p2,p3⟩:=fin (d.names.map (yH r own)) (Ex.rwl r own d.exps) (d.formals.map (Fo.rw r inner)) _ gv xv C9 (.inr hg9) (.inr hx9);rw[qp4,hbl] at p3;rw[hbl] at hst p1 p2;simp[g8,g9,hbl,hst,p1,p2]
 first|exact p3 _ g8|(rw[h4] at p3;exact p3 _ g8)
abbrev smA(s:Sm)(lv tx tg ex el dv bv:V):V:=.agg [lv,.int .i64 s.kind,tx,tg,ex,el,dv,bv]
theorem Sm.rw_eq(r:Rp)(sc:Scs)(n:Nat)(s:Sm):s.rw r sc n=
  if s.kind=7 then .mk (s.labels.map (yH r sc)) s.kind s.text s.targets s.exps s.elems (De.rwl r (qd (qg s.decls s.body) n::sc) sc (n+(qd (qg s.decls s.body) n).length) s.decls) (Sm.rwl r (qd (qg s.decls s.body) n::sc) (n+(qd (qg s.decls s.body) n).length+De.nbl s.decls) s.body)
  else if s.kind=8 then .mk (s.labels.map (yH r sc)) s.kind s.text s.targets s.exps s.elems s.decls (Sm.rwl r (qd (qk s.body) n::sc) (n+(qd (qk s.body) n).length) s.body)
  else .mk (s.labels.map (yH r sc)) s.kind (if s.kind=6 then yX r sc s.text else s.text) (Ex.rwl r sc s.targets) (Ex.rwl r sc s.exps) (s.elems.map (El.rw r sc)) s.decls (Sm.rw1 r sc n s.body):=by
 cases s;rw[Sm.rw];rfl
theorem Sm.rs_eq(r:Rp)(sc:Scs)(n:Nat)(st:Rst)(s:Sm):s.rs r sc n st=
  if s.kind=7 then Sm.rsl r (qd (qg s.decls s.body) n::sc) (n+(qd (qg s.decls s.body) n).length+De.nbl s.decls) (De.rsl r (qd (qg s.decls s.body) n::sc) sc (n+(qd (qg s.decls s.body) n).length) st s.decls) s.body
  else if s.kind=8 then Sm.rsl r (qd (qk s.body) n::sc) (n+(qd (qk s.body) n).length) st s.body
  else Sm.rs1 r sc n (Ex.rsl r sc (El.rsl r sc (tgS r sc (if s.kind=6 then zN r sc s.text st else st) s.targets) s.elems) s.exps) s.body:=by
 cases s;rw[Sm.rs];rfl
theorem Sm.bn_eq(s:Sm):s.bn=if s.kind=7 then nms (qg s.decls s.body)++De.bnl s.decls++Sm.bnl s.body else if s.kind=8 then nms (qk s.body)++Sm.bnl s.body else Sm.bn1 s.body:=by
 cases s;rw[Sm.bn];rfl
theorem qfF(l:List De)(i:Nat)(h:i<l.length):De.nbl (l.take (i+1))=De.nbl (l.take i)+l[i].nb∧De.nbl (l.take (i+1))≤De.nbl l:=by
 have ht:l.take (i+1)=l.take i++[l[i]]:=by rw[qp9,qpZ h];rfl
 refine ⟨by rw[ht,De.nbl_append];simp[De.nbl],?_⟩;have:De.nbl l=De.nbl (l.take (i+1))+De.nbl (l.drop (i+1)):=by rw[←De.nbl_append,qqE]
 omega
theorem Jz:∀l:List De,(l.flatMap De.names).length≤qF (l.map Pa.de)
 | []=>by simp
 | x::m=>by
  have ih:=Jz m;have:=De.size_parts x;simp only[qqQ,qp8,qqd,sizes_cons] at ih ⊢;omega
theorem qdW(l:List De)(i:Nat)(h:i<l.length):(l.take (i+1)).flatMap De.names=(l.take i).flatMap De.names++l[i].names∧((l.take i).flatMap De.names).length+l[i].names.length≤qF (l.map Pa.de):=by
 have ht:l.take (i+1)=l.take i++[l[i]]:=by rw[qp9,qpZ h];rfl
 refine ⟨by rw[ht,List.flatMap_append];simp,?_⟩;have h1:=Jz (l.take i);have h2:=Qc Pa.de l i h;have h3:=De.size_parts l[i];omega
theorem El.rsl_append(r:Rp)(sc:Scs)(l m:List El)(st:Rst):El.rsl r sc st (l++m)=El.rsl r sc (El.rsl r sc st l) m:=qrA ..
theorem qbN(r:Rp)(ho:RpOk r)(bf bt:Bool)(w:Nat)(fv:V):∀(m:Nat) (s:Sm),(Pa.st s).size≤m→m≤4000→qkY r bf bt w fv s
 | 0,s,hx,_=>by have:=(Pa.st s).size_pos;omega
 | m+1,s,hx,hm=>by
  intro bound st F D S b sc hk ok;have hparts:=Sm.size_parts s
  have IHb:∀y,y∈s.body→qkY r bf bt w fv y:=fun y hy=>qbN r ho bf bt w fv m y (by
   obtain ⟨i,hi⟩:=qqw (qqz (f:=Pa.st) hy);have:=zb hi;omega) (by omega)
  have IHd:∀d,d∈s.decls→∀y,y∈d.body→qkY r bf bt w fv y:=fun d hd y hy=>qbN r ho bf bt w fv m y (by
   obtain ⟨i,hi⟩:=qqw (qqz (f:=Pa.de) hd);have h1:=zb hi;have h2:=De.size_parts d;obtain ⟨j,hj⟩:=qqw (qqz (f:=Pa.st) hy);have:=zb hj;omega) (by omega)
  have hbl:s.body.length≤4000:=by have:=qT (s.body.map Pa.st);rw[qp2] at this;omega
  have hdl:s.decls.length≤4000:=by have:=qT (s.decls.map Pa.de);rw[qp2] at this;omega
  have hell:s.elems.length≤4000:=by have:=qT (s.elems.map Pa.el);rw[qp2] at this;omega
  have hbo:=ok.bo;have hfr:=ok.fr;have hof:=ok.fl;rw[Sm.nb_eq] at hbo;refine qB.ib func194 ok194 ?_;rw[Sm.rw_eq,Sm.rs_eq,Sm.bn_eq];have fm:=fun bo s=>Rk.frm r bf bt w fv bo s
  obtain ⟨tg,htg⟩:∃x,x=V.sl false (s.targets.map Ex.v):=⟨_,rfl⟩;obtain ⟨ex,hex⟩:∃x,x=V.sl false (s.exps.map Ex.v):=⟨_,rfl⟩;obtain ⟨el,hel⟩:∃x,x=V.sl false (s.elems.map El.v):=⟨_,rfl⟩;obtain ⟨dv,hdv⟩:∃x,x=V.sl false (s.decls.map De.v):=⟨_,rfl⟩;obtain ⟨bv,hbv⟩:∃x,x=V.sl false (s.body.map Sm.v):=⟨_,rfl⟩;obtain ⟨S2,hS2⟩:∃S2:St,S2=S++[.arr [s.v] 8 1,.arr [smZ] 8 1,.arr [smA s (.sl true []) (.str s.text) tg ex el dv bv] 8 1]:=⟨_,rfl⟩
  have C0:Cx w 8 (Rk r bf bt w fv bound st) F D S s.v smZ (smA s (.sl true []) (.str s.text) tg ex el dv bv) F D S2:=by
   refine ⟨by rw[hS2];exact (fm _ _).push hk _,by rw[hS2];exact (Stp.refl _ _ _ _).push _,?_,?_,?_,(fm _ _).out hk (by omega),(fm _ _).out hk (by omega),(fm _ _).out hk (by omega)⟩
   all_goals rw[hS2,qpV (by omega)];simp
  have fin:∀{bo s' F' D' U} (lb:List Bz) (tx:Bz) (tg ex:List Ex) (el:List El) (de:List De) (bd:List Sm) (lv elv dv:V),Cx w 8 (Rk r bf bt w fv bo s') F D S s.v smZ (smA s lv (.str tx) (.sl false (tg.map Ex.v)) (.sl false (ex.map Ex.v)) elv dv (.sl false (bd.map Sm.v))) F' D' U→Gx 1 S.length w F' D' (lb.map .str) lv U→Gx 2 S.length w F' D' (el.map El.v) elv U→Gx 7 S.length w F' D' (de.map De.v) dv U→
    ldS U (.ptr (S.length+2) 0 0 1) (some 8)=some (smA s lv (.str tx) (.sl false (tg.map Ex.v)) (.sl false (ex.map Ex.v)) elv dv (.sl false (bd.map Sm.v)))∧∃U',stS U (.ptr (S.length+1) 0 0 1) 8 (smA s lv (.str tx) (.sl false (tg.map Ex.v)) (.sl false (ex.map Ex.v)) elv dv (.sl false (bd.map Sm.v)))=some U'∧
    ∀e:Env,e.get 6=some (.ptr (S.length+1) 0 0 1)→Z4 [.cell 6 (some 8)] S.length (fun v U=>Rd' w (Rk r bf bt w fv bo s') F D S (Sm.mk lb s.kind tx tg ex el de bd).v v U) .ret e U':=by
   intro bo s' F' D' U lb tx tg ex el de bd lv elv dv hC h1 h2 h3;have f1:=h1.flatV;have f2:=h2.flatV;have f3:=h3.flatV;refine ⟨by simp[ldS,hC.b2,qf],U.set (S.length+1) (.arr [smA s lv (.str tx) (.sl false (tg.map Ex.v)) (.sl false (ex.map Ex.v)) elv dv (.sl false (bd.map Sm.v))] 8 1),by simp[stS,hC.b1,qc,f1.2.1,f2.2.1,f3.2.1],fun e he=>?_⟩;exact qoH (fm bo s') (qpW (glt hC.b1)) he (h1.setC hC.b1 (by omega) _) (h2.setC hC.b1 (by omega) _) (h3.setC hC.b1 (by omega) _) (qp0 _) (qp0 _) (qp0 _) ((fm bo s').set hC.rk _ hC.o1) (hC.st.set _ (by omega))
  simp[c194,qw,evX,stS,ldS,Q3,qc];rw[←htg,←hex,←hel,←hdv,←hbv];rw[←hS2];obtain ⟨A,hA⟩:∃A:Nat→V→Np→Np→St→Prop,∀i gv F' D' U,A i gv F' D' U↔(Cx w 8 (Rk r bf bt w fv bound st) F D S s.v smZ (smA s gv (.str s.text) tg ex el dv bv) F' D' U∧Gw 1 S.length w F' D' (((s.labels.take i).map (yH r sc)).map .str) gv U):=⟨_,fun _ _ _ _ _=>Iff.rfl⟩;refine qE (IvW (A s.labels.length) fun _=>[(0,.ptr w 0 0 1),(2,.sl b ((Scs.flat sc).map yj)),(4,.ptr S.length 0 0 1),(6,.ptr (S.length+1) 0 0 1),(7,.ptr (S.length+2) 0 0 1)]) ?_ ?_
  ·refine qq (IvL s.labels.length A fun i _=>[(8,.int .i64 i),(0,.ptr w 0 0 1),(2,.sl b ((Scs.flat sc).map yj)),(4,.ptr S.length 0 0 1),(6,.ptr (S.length+1) 0 0 1),(7,.ptr (S.length+2) 0 0 1)]) s.labels.length _ ?_ ⟨0,_,F,D,by simp,by omega,(hA _ _ _ _ _).2 ⟨C0,Gw.nil _ _ _ _ _ _⟩,rfl⟩ ?_
   ·exact Env.so (by simp)
   rintro j e U ⟨i,gv,F1,D1,rfl,hi,hI,rfl⟩;obtain ⟨hC,hg⟩:=(hA _ _ _ _ _).1 hI;have hn:ldS U (.ptr S.length 0 0 1) none=some (.sl false (s.labels.map .str)):=by simp[ldS,hC.b0]
   by_cases hlt:i<s.labels.length
   ·have hia:=Q4 hlt false U;have hgv:ldS U (.ptr (S.length+2) 0 0 1) none=some gv:=by simp[ldS,hC.b2]
    have hfs:fits 1 [V.str (yH r sc s.labels[i])]=true:=rfl;obtain ⟨gv',U2,ha,hg2,k2,s2,a5,a6⟩:=hg.app1F (fm bound st) (bytes:=16) (b:=true) (y:=.str (yH r sc s.labels[i])) hC.rk hC.st hfs (by simp;omega);have C2:=hC.app (gv:=gv) k2 s2 a5 fun k ys wr hk'=>hg.neC hk' (by omega)
    have hst:=yL (j:=0) C2.b2 hg2.flatV (by simp) (by simp);simp only[List.take,List.drop,qp7,qqn] at hst;have C3:=C2.put (fm bound st) (smA s gv' (.str s.text) tg ex el dv bv);have hg3:=hg2.setC C2.b2 (by omega) (.arr [smA s gv' (.str s.text) tg ex el dv bv] 8 1);have hm:((s.labels.take (i+1)).map (yH r sc)).map V.str=((s.labels.take i).map (yH r sc)).map .str++[.str (yH r sc s.labels[i])]:=by rw[map_take _ _ _ hlt,qqe];rfl
    rw[←hm] at hg3;simp[hn,hlt,hgv,hia,zk];refine zt (kM r bf bt w fv bound st F1 D1 U hC.rk b sc ok.nd (by omega) s.labels[i]) ?_;simp[hfs,ha,hst];simp[Qd,zA,zK,hgv];simp[qO (n:=(i:Int)+1)];refine ⟨_,?_,_,?_,i+1,gv',F1,D1,rfl,by omega,(hA _ _ _ _ _).2 ⟨C3,hg3⟩,rfl⟩
    ·omega
    ·exact Env.so (by simp)
   ·have:i=s.labels.length:=by omega
    subst this;simp[hn];refine ⟨gv,F1,D1,hI,?_⟩;exact Env.so (by simp)
  rintro e U ⟨gv,F0,D0,hI,hsub⟩;obtain ⟨hC,hg⟩:=(hA _ _ _ _ _).1 hI;rw[qqo] at hg;show WP prog (.seq _ _) _ e U;rw[qcO];obtain ⟨M,hM⟩:∃A:V→Np→Np→St→Prop,∀lv F1 D1 U,A lv F1 D1 U↔(s.kind≠7∧s.kind≠8∧Cx w 8 (Rk r bf bt w fv bound (if s.kind=6 then zN r sc s.text st else st)) F D S s.v smZ (smA s lv (.str (if s.kind=6 then yX r sc s.text else s.text)) tg ex el dv bv) F1 D1 U∧Gw 1 S.length w F1 D1 ((s.labels.map (yH r sc)).map .str) lv U):=⟨_,fun _ _ _ _=>Iff.rfl⟩;refine qjj (IvW M fun _=>[(0,.ptr w 0 0 1),(2,.sl b ((Scs.flat sc).map yj)),(4,.ptr S.length 0 0 1),(6,.ptr (S.length+1) 0 0 1),(7,.ptr (S.length+2) 0 0 1)]) ?_ ?_
  ·have g0:e.get 0=_:=hsub 0 _ rfl;have g2:e.get 2=_:=hsub 2 _ rfl;have g4:e.get 4=_:=hsub 4 _ rfl;have g6:e.get 6=_:=hsub 6 _ rfl;have g7:e.get 7=_:=hsub 7 _ rfl;have hkd:ldS U (.ptr S.length 0 1 1) none=some (.int .i64 s.kind):=by simp[ldS,hC.b0]
   have htx:ldS U (.ptr S.length 0 2 1) none=some (.str s.text):=by simp[ldS,hC.b0]
   have hbd:∀{bo s' y F' D' U},Cx w 8 (Rk r bf bt w fv bo s') F D S s.v smZ y F' D' U→ldS U (.ptr S.length 0 7 1) none=some (.sl false (s.body.map Sm.v)):=fun hC=>by simp[ldS,hC.b0]
   have hdd:∀{bo s' y F' D' U},Cx w 8 (Rk r bf bt w fv bo s') F D S s.v smZ y F' D' U→ldS U (.ptr S.length 0 6 1) none=some (.sl false (s.decls.map De.v)):=fun hC=>by simp[ldS,hC.b0]
   by_cases h7:s.kind=7
   ·rw[if_pos h7,if_pos h7,if_pos h7];rw[if_pos h7] at hbo;simp[g4,hkd,h7];obtain ⟨B,hB⟩:∃A:Nat→V→Np→Np→St→Prop,∀i hv F' D' U,A i hv F' D' U↔(Cx w 8 (Rk r bf bt w fv bound st) F D S s.v smZ (smA s gv (.str s.text) tg ex el dv bv) F' D' U∧Gw 1 S.length w F' D' ((s.labels.map (yH r sc)).map .str) gv U∧Gw 1 S.length w F' D' (((s.decls.take i).flatMap De.names).map .str) hv U∧JR hv gv):=⟨_,fun _ _ _ _ _=>Iff.rfl⟩;refine qE (IvW (B s.decls.length) fun hv=>[(9,hv),(0,.ptr w 0 0 1),(2,.sl b ((Scs.flat sc).map yj)),(4,.ptr S.length 0 0 1),(6,.ptr (S.length+1) 0 0 1),(7,.ptr (S.length+2) 0 0 1)]) ?_ ?_
    ·refine qq (IvL s.decls.length B fun i hv=>[(10,.int .i64 i),(9,hv),(0,.ptr w 0 0 1),(2,.sl b ((Scs.flat sc).map yj)),(4,.ptr S.length 0 0 1),(6,.ptr (S.length+1) 0 0 1),(7,.ptr (S.length+2) 0 0 1)]) s.decls.length _ ?_ ⟨0,_,F0,D0,by simp,by omega,(hB _ _ _ _ _).2 ⟨hC,hg,Gw.nil _ _ _ _ _ _,fun l a b c hh=>V.noConfusion hh⟩,rfl⟩ ?_
     ·repeat' first|exact Env.sub_nil _|refine Env.sub_cons (by simp[g0,g2,g4,g6,g7]) ?_
     rintro j e U ⟨i,hv,F0,D0,rfl,hi,hI,rfl⟩;obtain ⟨hC,hg,hh,hdf⟩:=(hB _ _ _ _ _).1 hI;have hn:=hdd hC;by_cases hlt:i<s.decls.length
     ·have hia:=qjS hlt false U;obtain ⟨t1,t2⟩:=qdW s.decls i hlt;obtain ⟨hv',U2,ha,hh2,k2,s2,a5,a6⟩:=hh.appF (fm bound st) (bytes:=16) (x:=.sl false (s.decls[i].names.map .str)) hC.rk hC.st (yf _ _ _) (Q2 _) (by rw[qp2,qp2];omega);have C2:=hC.app (gv:=hv) k2 s2 a5 fun k ys wr hk'=>hh.neC hk' (by omega)
      have hg':=hg.other fun l o ho a b c hv'=>a5 l o ho fun a' b' c' hh=>hdf l a' b' c' hh a b c hv'
      rw[←qqe,←t1] at hh2;have glt':=hg.lt
      have df2:JR hv' gv:=fun l a b c hh a' b' c' hg=>by
       rcases a6 l a b c hh with h1|h1
       ·exact hdf l _ _ _ h1 _ _ _ hg
       ·have:=glt' l _ _ _ hg;omega
      simp[hn,hlt,hia,ha,qO (n:=(i:Int)+1)];refine ⟨_,?_,_,?_,i+1,hv',F0,D0,rfl,by omega,(hB _ _ _ _ _).2 ⟨C2,hg',hh2,df2⟩,rfl⟩
      ·omega
      ·exact Env.so (by simp)
     ·have:i=s.decls.length:=by omega
      subst this;simp[hn];refine ⟨hv,F0,D0,hI,?_⟩;exact Env.so (by simp)
    clear hsub g0 g2 g4 g6 g7 hkd htx;rintro e U1 ⟨hv,F1,D1,hI,hsub⟩;obtain ⟨C1,hg1,hh1,hdf⟩:=(hB _ _ _ _ _).1 hI;rw[qqo] at hh1;have g0:e.get 0=_:=hsub 0 _ rfl;have g2:e.get 2=_:=hsub 2 _ rfl;have g4:e.get 4=_:=hsub 4 _ rfl;have g6:e.get 6=_:=hsub 6 _ rfl;have g7:e.get 7=_:=hsub 7 _ rfl;have g9:e.get 9=_:=hsub 9 _ rfl;simp[g0,g2,g4,g9,hbd C1];refine qm (qeU s.body (by omega) false w _ (fm bound st) F1 D1 U1 C1.rk) ?_;rintro v U2 ⟨rfl,F2,D2,k2,s2⟩;have C2:=C1.call k2 s2;have hg2:=hg1.step s2;have hh2:=hh1.step s2;have hnl:=Jz s.decls;have hll:=Zn s.body;obtain ⟨hv',U3,ha,hh3,k3,s3,a5,a6⟩:=hh2.appF (fm bound st) (bytes:=16) (x:=.sl false ((qk s.body).map .str)) C2.rk C2.st (yf _ _ _) (Q2 _) (by rw[qp2,qp2];omega);have C3:=C2.app (gv:=hv) k3 s3 a5 fun k ys wr hk'=>hh2.neC hk' (by omega)
    have hg3:=hg2.other fun l o ho a b c hv'=>a5 l o ho fun a' b' c' hh=>hdf l a' b' c' hh a b c hv'
    rw[←qqe] at hh3;obtain ⟨names,hnames⟩:∃names,names=qg s.decls s.body:=⟨_,rfl⟩;have hn':s.decls.flatMap De.names++qk s.body=names:=by rw[hnames];rfl
    rw[hn'] at hh3;rw[←hnames] at hbo ⊢;have hnl2:names.length≤8000:=by rw[←hn',qp8];omega
    simp[ha];refine qm (qb6 r bf bt w fv bound st F2 D2 U3 C3.rk b sc names hv' hh3.nr (by omega) (by omega)) ?_;rintro v U4 ⟨rfl,F4,D4,k4,s4⟩;have C4:=C3.call k4 s4;have hg4:=hg3.step s4;obtain ⟨inner,hinner⟩:∃inner,inner=qd names bound.length::sc:=⟨_,rfl⟩;have hbl1:(bound++nms names).length=bound.length+(qd names bound.length).length:=by rw[qp8,JT _ bound.length]
    have okw:Okw (bound++nms names) st inner (De.nbl s.decls+Sm.nbl s.body) (qF (s.decls.map Pa.de)+qF (s.body.map Pa.st)):=by
     rw[hinner];exact Okw.enter (nb:=(qd names 0).length+(De.nbl s.decls+Sm.nbl s.body)) ⟨ok.nd,hof,by omega,by omega⟩ names (qp0 _)
    rw[←hinner];have hfi:=okw.fl;have hbi:=okw.bo;have hst4:=yL (j:=6) (v:=.sl true []) C4.b2 ⟨rfl,rfl,rfl⟩ (by simp) (by simp);simp only[List.take,List.drop,qp7,qqn] at hst4;have C5:=C4.put (fm _ _) (smA s gv (.str s.text) tg ex el (.sl true []) bv);have hg5:=hg4.setC C4.b2 (by omega) (.arr [smA s gv (.str s.text) tg ex el (.sl true []) bv] 8 1);simp[g7,hst4];obtain ⟨E,hE⟩:∃A:Nat→V→Np→Np→St→Prop,∀i xv F5 D5 U,A i xv F5 D5 U↔(Cx w 8 (Rk r bf bt w fv (bound++nms names++De.bnl (s.decls.take i)) (De.rsl r inner sc (bound++nms names).length st (s.decls.take i))) F D S s.v smZ (smA s gv (.str s.text) tg ex el xv bv) F5 D5 U∧Gw 1 S.length w F5 D5 ((s.labels.map (yH r sc)).map .str) gv U∧Gw 7 S.length w F5 D5 ((De.rwl r inner sc (bound++nms names).length (s.decls.take i)).map De.v) xv U):=⟨_,fun _ _ _ _ _=>Iff.rfl⟩;refine qE (IvW (E s.decls.length) fun _=>[(11,.sl false ((Scs.flat inner).map yj)),(0,.ptr w 0 0 1),(4,.ptr S.length 0 0 1),(6,.ptr (S.length+1) 0 0 1),(7,.ptr (S.length+2) 0 0 1)]) ?_ ?_
    ·refine qq (IvL s.decls.length E fun i _=>[(12,.int .i64 i),(11,.sl false ((Scs.flat inner).map yj)),(0,.ptr w 0 0 1),(2,.sl b ((Scs.flat sc).map yj)),(4,.ptr S.length 0 0 1),(6,.ptr (S.length+1) 0 0 1),(7,.ptr (S.length+2) 0 0 1)]) s.decls.length _ ?_ ⟨0,_,F4,D4,by simp,by omega,(hE _ _ _ _ _).2 ⟨by simpa[De.bnl,De.rsl] using C5,hg5,Gw.nil _ _ _ _ _ _⟩,rfl⟩ ?_
     ·repeat' first|exact Env.sub_nil _|refine Env.sub_cons (by simp[g0,g2,g4,g6,g7]) ?_
     rintro j e U ⟨i,xv,F5,D5,rfl,hi,hI,rfl⟩;obtain ⟨hC,hg,hx⟩:=(hE _ _ _ _ _).1 hI;have hn:=hdd hC;by_cases hlt:i<s.decls.length
     ·have hia:=qjS hlt false U;obtain ⟨n1,n2⟩:=qfF s.decls i hlt;have hst:=Qc Pa.de s.decls i hlt;have hrl:=De.rsl_len r (s.decls.take i) inner sc (bound++nms names).length st;have hbli:(bound++nms names++De.bnl (s.decls.take i)).length=(bound++nms names).length+De.nbl (s.decls.take i):=by rw[qp8,De.bnl_length]
      have ht:s.decls.take (i+1)=s.decls.take i++[s.decls[i]]:=by rw[qp9,qpZ hlt];rfl
      have q:=qee r ho bf bt w fv s.decls[i] (IHd _ (qp5 hlt)) (by omega) _ _ F5 D5 U b false sc inner hC.rk ⟨okw.nd,by omega,by omega,by have:=okw.fr;omega⟩ ok.nd (by omega);rw[hbli] at q;obtain ⟨d',hd'⟩:∃d',d'=De.rw r inner sc ((bound++nms names).length+De.nbl (s.decls.take i)) s.decls[i]:=⟨_,rfl⟩;rw[←hd'] at q;have hxv:ldS U (.ptr (S.length+2) 0 6 1) none=some xv:=by simp[ldS,hC.b2]
      simp[hn,hlt,hia,hxv];obtain ⟨F',D',U',r1,r2⟩:=hC.rk.real (bound++nms names++De.bnl (s.decls.take i)++s.decls[i].bn) (De.rs r inner sc ((bound++nms names).length+De.nbl (s.decls.take i)) (De.rsl r inner sc (bound++nms names).length st (s.decls.take i)) s.decls[i]);refine Qa q ⟨_,U',rfl,F',D',r1,r2⟩ ?_;rintro v U2 ⟨rfl,F6,D6,k6,s6⟩;have C6:=hC.call k6 s6;have hg6:=hg.step s6;have hx6:=hx.step s6;obtain ⟨xv',U3,ha,hx7,k7,s7,a5,a6⟩:=hx6.app1F (fm _ _) (bytes:=120) (b:=true) C6.rk C6.st (De.fits1 d') (by rw[qp2,qdf,qqR];omega);have C7:=C6.app (gv:=xv) k7 s7 a5 fun k ys wr hk'=>hx6.neC hk' (by omega)
      have hg7:=hg6.other fun l o ho a b c hv'=>a5 l o ho fun a' b' c' hh=>(Gx.ne (.inr hx6) (.inr hg6) (by omega)) l a' b' c' a b c hh hv'
      have hstx:=yL (j:=6) C7.b2 hx7.flatV (by simp) (by simp);simp only[List.take,List.drop,qp7,qqn] at hstx;have C8:=C7.put (fm _ _) (smA s gv (.str s.text) tg ex el xv' bv);have hg8:=hg7.setC C7.b2 (by omega) (.arr [smA s gv (.str s.text) tg ex el xv' bv] 8 1);have hx8:=hx7.setC C7.b2 (by omega) (.arr [smA s gv (.str s.text) tg ex el xv' bv] 8 1)
      have hn1:(De.rwl r inner sc (bound++nms names).length (s.decls.take i)).map De.v++[d'.v]=(De.rwl r inner sc (bound++nms names).length (s.decls.take (i+1))).map De.v:=by
       rw[ht,De.rwl_append,qqe,hd'];rfl
      have hn2:De.rs r inner sc ((bound++nms names).length+De.nbl (s.decls.take i)) (De.rsl r inner sc (bound++nms names).length st (s.decls.take i)) s.decls[i]=De.rsl r inner sc (bound++nms names).length st (s.decls.take (i+1)):=by
       rw[ht,De.rsl_append];rfl
      have hn3:bound++nms names++De.bnl (s.decls.take i)++s.decls[i].bn=bound++nms names++De.bnl (s.decls.take (i+1)):=by
       rw[ht,De.bnl_append,qp4 (bound++nms names)];simp[De.bnl]
      rw[hn1] at hx8;rw[hn2,hn3] at C8;have hxv2:ldS U2 (.ptr (S.length+2) 0 6 1) none=some xv:=by simp[ldS,C6.b2]
      simp[De.fits1,ha,hstx];simp[Qd,zA,zK,hxv,hxv2];simp[qO (n:=(i:Int)+1)];refine ⟨_,?_,_,?_,i+1,xv',F6,D6,rfl,by omega,(hE _ _ _ _ _).2 ⟨C8,hg8,hx8⟩,rfl⟩
      ·omega
      ·exact Env.so (by simp)
     ·have:i=s.decls.length:=by omega
      subst this;simp[hn];refine ⟨xv,F5,D5,hI,?_⟩;exact Env.so (by simp)
    clear hsub g0 g2 g4 g6 g7 g9;rintro e U5 ⟨xv,F5,D5,hI,hsub⟩;obtain ⟨C5,hg5,hx5⟩:=(hE _ _ _ _ _).1 hI;rw[qqo] at C5 hx5;have g0:e.get 0=_:=hsub 0 _ rfl;have g4:e.get 4=_:=hsub 4 _ rfl;have g6:e.get 6=_:=hsub 6 _ rfl;have g7:e.get 7=_:=hsub 7 _ rfl;have g11:e.get 11=_:=hsub 11 _ rfl;have hrl:=De.rsl_len r s.decls inner sc (bound++nms names).length st;have hbld:(bound++nms names++De.bnl s.decls).length=(bound++nms names).length+De.nbl s.decls:=by rw[qp8,De.bnl_length]
    have q:=jJ r bf bt w fv s.body IHb hbl _ _ F5 D5 U5 false false inner C5.rk ⟨okw.nd,by omega,by omega,by have:=okw.fr;omega⟩;rw[hbld,hbl1] at q;simp[g0,g4,g11,hbd C5];refine qm q ?_;rintro v U6 ⟨rfl,F6,D6,k6,s6⟩;have C6:=C5.call k6 s6;have hst:=yL (j:=7) (v:=.sl false ((Sm.rwl r inner (bound.length+(qd names bound.length).length+De.nbl s.decls) s.body).map Sm.v)) C6.b2 ⟨rfl,rfl,rfl⟩ (by simp) (by simp);simp only[List.take,List.drop,qp7,qqn] at hst;have C7:=C6.put (fm _ _) (smA s gv (.str s.text) tg ex el xv (.sl false ((Sm.rwl r inner (bound.length+(qd names bound.length).length+De.nbl s.decls) s.body).map Sm.v)));have hg7:=(hg5.step s6).setC C6.b2 (by omega) (.arr [smA s gv (.str s.text) tg ex el xv (.sl false ((Sm.rwl r inner (bound.length+(qd names bound.length).length+De.nbl s.decls) s.body).map Sm.v))] 8 1);have hx7:=(hx5.step s6).setC C6.b2 (by omega) (.arr [smA s gv (.str s.text) tg ex el xv (.sl false ((Sm.rwl r inner (bound.length+(qd names bound.length).length+De.nbl s.decls) s.body).map Sm.v))] 8 1);subst htg hex hel;obtain ⟨p1,U9,p2,p3⟩:=fin (s.labels.map (yH r sc)) s.text s.targets s.exps s.elems _ _ gv _ xv C7 (.inr hg7) (.inl ⟨false,rfl⟩) (.inr hx7);have e1:bound++nms names++De.bnl s.decls++Sm.bnl s.body=bound++(nms names++De.bnl s.decls++Sm.bnl s.body):=by simp only[qp4]
    rw[e1] at p3;simp[g6,g7,hst,p1,p2];rw[h7,hbl1] at p3;simp only[qp4] at p3 ⊢;exact p3 _ g6
   rw[if_neg h7,if_neg h7,if_neg h7];rw[if_neg h7] at hbo;by_cases h8:s.kind=8
   ·rw[if_pos h8,if_pos h8,if_pos h8];rw[if_pos h8] at hbo;simp[g0,g2,g4,hkd,h8,hbd hC];refine qm (YY r bf bt w fv s.body IHb (by omega) bound st F0 D0 U false b sc hC.rk ⟨ok.nd,hof,hbo,by omega⟩) ?_;rintro v U1 ⟨rfl,F1,D1,k1,s1⟩;have C1:=hC.call k1 s1;obtain ⟨bd,hbd'⟩:∃bd,bd=Sm.rwl r (qd (qk s.body) bound.length::sc) (bound.length+(qd (qk s.body) bound.length).length) s.body:=⟨_,rfl⟩;rw[←hbd'];have hst:=yL (j:=7) (v:=.sl false (bd.map Sm.v)) C1.b2 ⟨rfl,rfl,rfl⟩ (by simp) (by simp);simp only[List.take,List.drop,qp7,qqn] at hst;have C2:=C1.put (fm _ _) (smA s gv (.str s.text) tg ex el dv (.sl false (bd.map Sm.v)));have hg2:=(hg.step s1).setC C1.b2 (by omega) (.arr [smA s gv (.str s.text) tg ex el dv (.sl false (bd.map Sm.v))] 8 1);subst htg hex hel hdv;obtain ⟨p1,U9,p2,p3⟩:=fin (s.labels.map (yH r sc)) s.text s.targets s.exps s.elems s.decls bd gv _ _ C2 (.inr hg2) (.inl ⟨false,rfl⟩) (.inl ⟨false,rfl⟩);simp[g6,g7,hst,p1,p2]
    first|exact p3 _ g6|(rw[h8] at p3;exact p3 _ g6)
   by_cases h6:s.kind=6
   ·simp[g0,g2,g4,hkd,h6,htx];refine qm (qgK r ho bf bt w fv bound st F0 D0 U hC.rk b sc ok.nd (by omega) s.text (by omega)) ?_;rintro v U1 ⟨rfl,F1,D1,k1,s1⟩;have C1:=hC.call k1 s1;have hst:=yL (j:=2) (v:=.str (yX r sc s.text)) C1.b2 ⟨rfl,rfl,rfl⟩ (by simp) (by simp);simp only[List.take,List.drop,qp7,qqn] at hst;have C2:=C1.put (fm _ _) (smA s gv (.str (yX r sc s.text)) tg ex el dv bv);have hg2:=(hg.step s1).setC C1.b2 (by omega) (.arr [smA s gv (.str (yX r sc s.text)) tg ex el dv bv] 8 1);simp[g7,hst];refine ⟨gv,F1,D1,(hM _ _ _ _).2 ⟨h7,h8,by rw[if_pos h6,if_pos h6];exact C2,hg2⟩,?_⟩
    repeat' first|exact Env.sub_nil _|refine Env.sub_cons (by simp[g0,g2,g4,g6,g7]) ?_
   ·simp[g4,hkd,h7,h8,h6];refine ⟨gv,F0,D0,(hM _ _ _ _).2 ⟨h7,h8,by rw[if_neg h6,if_neg h6];exact hC,hg⟩,?_⟩
    repeat' first|exact Env.sub_nil _|refine Env.sub_cons (by simp[g0,g2,g4,g6,g7]) ?_
  clear hsub hC hg hI;rintro e U ⟨gv,F1,D1,hI,hsub⟩;obtain ⟨h7,h8,C1,hg1⟩:=(hM _ _ _ _).1 hI;rw[if_neg h7,if_neg h8] at hbo;rw[if_neg h7,if_neg h7,if_neg h7,if_neg h8,if_neg h8,if_neg h8];obtain ⟨st1,hst1⟩:∃st1,st1=if s.kind=6 then zN r sc s.text st else st:=⟨_,rfl⟩
  have hst1l:st1.free.length≤st.free.length+1:=by
   rw[hst1];split
   ·exact QQ r sc s.text st
   ·omega
  obtain ⟨tx,htx⟩:∃tx,tx=if s.kind=6 then yX r sc s.text else s.text:=⟨_,rfl⟩
  rw[←hst1] at C1 ⊢;rw[←htx] at C1 ⊢;have g0:e.get 0=_:=hsub 0 _ rfl;have g2:e.get 2=_:=hsub 2 _ rfl;have g4:e.get 4=_:=hsub 4 _ rfl;have g6:e.get 6=_:=hsub 6 _ rfl;have g7:e.get 7=_:=hsub 7 _ rfl;have ldt:ldS U (.ptr S.length 0 3 1) none=some (.sl false (s.targets.map Ex.v)):=by simp[ldS,C1.b0]
  simp[g0,g2,g4,ldt];refine qm (qlH r ho bf bt w fv s.targets (by omega) bound st1 F1 D1 U false b sc C1.rk ok.nd (by omega) (by omega)) ?_;rintro v U2 ⟨rfl,F2,D2,k2,s2⟩;have C2:=C1.call k2 s2;obtain ⟨tg1,htg1⟩:∃x,x=V.sl false ((Ex.rwl r sc s.targets).map Ex.v):=⟨_,rfl⟩;obtain ⟨st2,hst2⟩:∃st2,st2=tgS r sc st1 s.targets:=⟨_,rfl⟩;have hst2l:=qfw r sc st1 s.targets;rw[←hst2] at C2 hst2l ⊢;rw[←htg1];have hstt:=yL (j:=3) (v:=tg1) C2.b2 (by rw[htg1];exact ⟨rfl,rfl,rfl⟩) (by simp) (by simp);simp only[List.take,List.drop,qp7,qqn] at hstt;have C3:=C2.put (fm _ _) (smA s gv (.str tx) tg1 ex el dv bv);have hg3:=(hg1.step s2).setC C2.b2 (by omega) (.arr [smA s gv (.str tx) tg1 ex el dv bv] 8 1);obtain ⟨U3,hU3⟩:∃U3,U3=U2.set (S.length+2) (.arr [smA s gv (.str tx) tg1 ex el dv bv] 8 1):=⟨_,rfl⟩;rw[←hU3] at hstt C3 hg3;have hste:=yL (j:=5) (v:=.sl true []) C3.b2 ⟨rfl,rfl,rfl⟩ (by simp) (by simp);simp only[List.take,List.drop,qp7,qqn] at hste;have C4:=C3.put (fm _ _) (smA s gv (.str tx) tg1 ex (.sl true []) dv bv);have hg4:=hg3.setC C3.b2 (by omega) (.arr [smA s gv (.str tx) tg1 ex (.sl true []) dv bv] 8 1);simp[g7,hstt,hste];obtain ⟨E,hE⟩:∃A:Nat→V→Np→Np→St→Prop,∀i xv F5 D5 U,A i xv F5 D5 U↔(Cx w 8 (Rk r bf bt w fv bound (El.rsl r sc st2 (s.elems.take i))) F D S s.v smZ (smA s gv (.str tx) tg1 ex xv dv bv) F5 D5 U∧Gw 1 S.length w F5 D5 ((s.labels.map (yH r sc)).map .str) gv U∧Gw 2 S.length w F5 D5 (((s.elems.take i).map (El.rw r sc)).map El.v) xv U):=⟨_,fun _ _ _ _ _=>Iff.rfl⟩;refine qE (IvW (E s.elems.length) fun _=>[(0,.ptr w 0 0 1),(2,.sl b ((Scs.flat sc).map yj)),(4,.ptr S.length 0 0 1),(6,.ptr (S.length+1) 0 0 1),(7,.ptr (S.length+2) 0 0 1)]) ?_ ?_
  ·refine qq (IvL s.elems.length E fun i _=>[(13,.int .i64 i),(0,.ptr w 0 0 1),(2,.sl b ((Scs.flat sc).map yj)),(4,.ptr S.length 0 0 1),(6,.ptr (S.length+1) 0 0 1),(7,.ptr (S.length+2) 0 0 1)]) s.elems.length _ ?_ ⟨0,_,F2,D2,by simp,by omega,(hE _ _ _ _ _).2 ⟨C4,hg4,Gw.nil _ _ _ _ _ _⟩,rfl⟩ ?_
   ·repeat' first|exact Env.sub_nil _|refine Env.sub_cons (by simp[g0,g2,g4,g6,g7]) ?_
   rintro j e U ⟨i,xv,F5,D5,rfl,hi,hI,rfl⟩;obtain ⟨hC,hg,hx⟩:=(hE _ _ _ _ _).1 hI;have hn:ldS U (.ptr S.length 0 5 1) none=some (.sl false (s.elems.map El.v)):=by simp[ldS,hC.b0]
   by_cases hlt:i<s.elems.length
   ·have hia:=fun U=>qnk hlt false U
    obtain ⟨y,hy⟩:∃y,y=s.elems[i]:=⟨_,rfl⟩;rw[←hy] at hia;have hst:=Qc Pa.el s.elems i hlt;rw[←hy] at hst;have hrl:=El.rsl_len r sc (s.elems.take i) st2;have hys:(Pa.el y).size=1+qF (y.exps.map Pa.ex):=by rw[Pa.size_eq];rfl
    have ht:s.elems.take (i+1)=s.elems.take i++[y]:=by rw[qp9,qpZ hlt,hy];rfl
    have q:=jd r ho bf bt w fv y.exps (by omega) bound _ F5 D5 U false b sc hC.rk ok.nd (by omega) (by omega);have hxv:ldS U (.ptr (S.length+2) 0 5 1) none=some xv:=by simp[ldS,hC.b2]
    simp[hn,hlt,hia,hxv];obtain ⟨F',D',U',r1,r2⟩:=hC.rk.real bound (Ex.rsl r sc (El.rsl r sc st2 (s.elems.take i)) y.exps);refine Qa q ⟨_,U',rfl,F',D',r1,r2⟩ ?_;rintro v U2 ⟨rfl,F6,D6,k6,s6⟩;have C6:=hC.call k6 s6;have hg6:=hg.step s6;have hx6:=hx.step s6;obtain ⟨y',hy'⟩:∃y',y'=El.rw r sc y:=⟨_,rfl⟩;obtain ⟨xv',U3,ha,hx7,k7,s7,a5,a6⟩:=hx6.app1F (fm _ _) (bytes:=32) (b:=true) C6.rk C6.st (El.fits1 y') (by simp;omega);have C7:=C6.app (gv:=xv) k7 s7 a5 fun k ys wr hk'=>hx6.neC hk' (by omega)
    have hg7:=hg6.other fun l o ho a b c hv'=>a5 l o ho fun a' b' c' hh=>(Gx.ne (.inr hx6) (.inr hg6) (by omega)) l a' b' c' a b c hh hv'
    have hstx:=yL (j:=5) C7.b2 hx7.flatV (by simp) (by simp);simp only[List.take,List.drop,qp7,qqn] at hstx;have C8:=C7.put (fm _ _) (smA s gv (.str tx) tg1 ex xv' dv bv);have hg8:=hg7.setC C7.b2 (by omega) (.arr [smA s gv (.str tx) tg1 ex xv' dv bv] 8 1);have hx8:=hx7.setC C7.b2 (by omega) (.arr [smA s gv (.str tx) tg1 ex xv' dv bv] 8 1)
    have hn1:((s.elems.take i).map (El.rw r sc)).map El.v++[y'.v]=((s.elems.take (i+1)).map (El.rw r sc)).map El.v:=by
     rw[ht,qqe,qqe,hy'];rfl
    have hn2:Ex.rsl r sc (El.rsl r sc st2 (s.elems.take i)) y.exps=El.rsl r sc st2 (s.elems.take (i+1)):=by
     rw[ht,El.rsl_append];rfl
    rw[hn1] at hx8;rw[hn2] at C8
    have hbu:ql (.agg [.int .i64 0,.sl true []]) [(0,1,.int .i64 y.kind),(1,1,.sl false ((Ex.rwl r sc y.exps).map Ex.v))]=some y'.v:=by
     rw[hy'];simp[ql,qc,El.v,El.rw]
    have hxv2:ldS U2 (.ptr (S.length+2) 0 5 1) none=some xv:=by simp[ldS,C6.b2]
    have hn2':ldS U2 (.ptr S.length 0 5 1) none=some (.sl false (s.elems.map El.v)):=by simp[ldS,C6.b0]
    simp[qh,hbu,El.fits1,ha,hstx];simp[Qd,zA,zK,hxv,hxv2,hn,hn2',hia];simp[qO (n:=(i:Int)+1)];refine ⟨_,?_,_,?_,i+1,xv',F6,D6,rfl,by omega,(hE _ _ _ _ _).2 ⟨C8,hg8,hx8⟩,rfl⟩
    ·omega
    ·exact Env.so (by simp)
   ·have:i=s.elems.length:=by omega
    subst this;simp[hn];refine ⟨xv,F5,D5,hI,?_⟩;exact Env.so (by simp)
  clear hsub g0 g2 g4 g6 g7;rintro e U5 ⟨xv,F5,D5,hI,hsub⟩;obtain ⟨C5,hg5,hx5⟩:=(hE _ _ _ _ _).1 hI;rw[qqo] at C5 hx5;have g0:e.get 0=_:=hsub 0 _ rfl;have g2:e.get 2=_:=hsub 2 _ rfl;have g4:e.get 4=_:=hsub 4 _ rfl;have g6:e.get 6=_:=hsub 6 _ rfl;have g7:e.get 7=_:=hsub 7 _ rfl;have hrl:=El.rsl_len r sc s.elems st2;have ldx:ldS U5 (.ptr S.length 0 4 1) none=some (.sl false (s.exps.map Ex.v)):=by simp[ldS,C5.b0]
  simp[g0,g2,g4,ldx];refine qm (jd r ho bf bt w fv s.exps (by omega) bound _ F5 D5 U5 false b sc C5.rk ok.nd (by omega) (by omega)) ?_;rintro v U6 ⟨rfl,F6,D6,k6,s6⟩;have C6:=C5.call k6 s6;have hrl6:=Ex.rsl_len r sc s.exps (El.rsl r sc st2 s.elems);obtain ⟨ex1,hex1⟩:∃x,x=V.sl false ((Ex.rwl r sc s.exps).map Ex.v):=⟨_,rfl⟩;rw[←hex1];have hstx:=yL (j:=4) (v:=ex1) C6.b2 (by rw[hex1];exact ⟨rfl,rfl,rfl⟩) (by simp) (by simp);simp only[List.take,List.drop,qp7,qqn] at hstx;have C7:=C6.put (fm _ _) (smA s gv (.str tx) tg1 ex1 xv dv bv);have hg7:=(hg5.step s6).setC C6.b2 (by omega) (.arr [smA s gv (.str tx) tg1 ex1 xv dv bv] 8 1);have hx7:=(hx5.step s6).setC C6.b2 (by omega) (.arr [smA s gv (.str tx) tg1 ex1 xv dv bv] 8 1);have ldb:ldS (U6.set (S.length+2) (.arr [smA s gv (.str tx) tg1 ex1 xv dv bv] 8 1)) (.ptr S.length 0 7 1) none=some (.sl false (s.body.map Sm.v)):=by simp only[ldS,C7.b0];simp
  simp[g0,g2,g4,g7,hstx,ldb];refine qm (jM r bf bt w fv s.body IHb (by omega) bound _ F6 D6 _ false b sc C7.rk ⟨ok.nd,hof,hbo,by omega⟩) ?_;rintro v U8 ⟨rfl,F8,D8,k8,s8⟩;have C8:=C7.call k8 s8;have hst:=yL (j:=7) (v:=.sl false ((Sm.rw1 r sc bound.length s.body).map Sm.v)) C8.b2 ⟨rfl,rfl,rfl⟩ (by simp) (by simp);simp only[List.take,List.drop,qp7,qqn] at hst;have C9:=C8.put (fm _ _) (smA s gv (.str tx) tg1 ex1 xv dv (.sl false ((Sm.rw1 r sc bound.length s.body).map Sm.v)));have hg9:=(hg7.step s8).setC C8.b2 (by omega) (.arr [smA s gv (.str tx) tg1 ex1 xv dv (.sl false ((Sm.rw1 r sc bound.length s.body).map Sm.v))] 8 1);have hx9:=(hx7.step s8).setC C8.b2 (by omega) (.arr [smA s gv (.str tx) tg1 ex1 xv dv (.sl false ((Sm.rw1 r sc bound.length s.body).map Sm.v))] 8 1);subst htg1 hex1 hdv;obtain ⟨p1,U9,p2,p3⟩:=fin (s.labels.map (yH r sc)) tx (Ex.rwl r sc s.targets) (Ex.rwl r sc s.exps) (s.elems.map (El.rw r sc)) s.decls _ gv xv _ C9 (.inr hg9) (.inr hx9) (.inl ⟨false,rfl⟩);simp[g6,g7,hst,p1,p2];exact p3 _ g6
theorem qjd(r:Rp)(ho:RpOk r)(bf bt:Bool)(w:Nat)(fv:V)(s:Sm)(hsz:(Pa.st s).size≤4000)(st:Rst)(F D:Np)(S:St)(hk:Rk r bf bt w fv [] st F D S)(hn:Sm.nb1 [s]≤50000)(hfr:st.free.length+(Pa.st s).size≤1000000):
  qB prog 67 [.ptr w 0 0 1,s.v] S (fun v U=>Rd' w (Rk r bf bt w fv (nms s.labels++s.bn) (s.rs r [qd s.labels 0] (qd s.labels 0).length st)) F D S (s.wholeQ r).v v U):=by
 refine qB.ib func67 ok67 ?_;obtain ⟨S1,hS1⟩:∃S1:St,S1=S++[.arr [s.v] 8 1,.arr [smZ] 8 1]:=⟨_,rfl⟩;have b0:S1[S.length]?=some (.arr [s.v] 8 1):=by rw[hS1,qpV (by omega)];simp
 have b1:S1[S.length+1]?=some (.arr [smZ] 8 1):=by rw[hS1,qpV (by omega)];simp
 have fm:=fun bo s=>Rk.frm r bf bt w fv bo s
 have k1:Rk r bf bt w fv [] st F D S1:=by rw[hS1];exact (fm _ _).push hk _
 have s1:Stp w F D S F D S1:=by rw[hS1];exact (Stp.refl _ _ _ _).push _
 have o1:Off w F D (S.length+1):=(fm _ _).out hk (by omega);have hlab:qk [s]=s.labels:=by simp[qk]
 have q:=YY r bf bt w fv [s] (fun y hy=>by simp at hy;subst hy;exact qbN r ho bf bt w fv 4000 y hsz (qp0 _)) (by simpa using hsz) [] st F D S1 true true [] k1 ⟨fun _ h=>(by cases h),qqB _,by rw[hlab];simpa[Sm.nb1,Sm.nbl] using hn,by simpa using hfr⟩;rw[hlab] at q;simp only[qqd,qq4,Sm.bnl,Sm.rsl,Sm.rwl,qqV,qqn,qq3,qq0,Scs.flat] at q;have ld0:ldS S1 (.ptr S.length 0 0 1) (some 8)=some s.v:=by simp[ldS,b0]
 simp[c67,qw];rw[←hS1];simp[ld0,Sm.fits1];refine qm q ?_;rintro v U ⟨rfl,F1,D1,k2,s2⟩;have c1:=s2.at o1 b1;have p1:=o1.next (glt b1) s2;have hia:iaS U 8 (.sl false [(s.rw r [qd s.labels 0] (qd s.labels 0).length).v]) 0=some (.iptr (s.rw r [qd s.labels 0] (qd s.labels 0).length).v 0):=by simp[iaS]
 obtain ⟨y,hy⟩:∃y,y=s.rw r [qd s.labels 0] (qd s.labels 0).length:=⟨_,rfl⟩;rw[←hy] at hia ⊢;have hst:stS U (.ptr (S.length+1) 0 0 1) 8 y.v=some (U.set (S.length+1) (.arr [y.v] 8 1)):=by simp[stS,c1,qc]
 simp[hia,hst];have hz:(U.set (S.length+1) (.arr [y.v] 8 1))[S.length+1]?=some (.arr [y.v] 8 1):=qpW (glt c1);exact qi (vs:=[y.v]) (by simp[rvs,ldS,hz]) ⟨by simp only[qo];rw[hy];rfl,F1,D1,(fm _ _).set k2 _ p1,(s1.trans s2).set _ (by omega)⟩
def r0:Rp:=⟨[],[],[]⟩
theorem qoK:RpOk r0:=⟨qp0 _,qqB _⟩
def st0:Rst:=⟨[],false,false⟩
abbrev wk0(gv:V):Ob:=.arr [.agg [.sl true [],.sl true [],gv,.sl true [],.sl true [],.bool false,.bool false]] 7 1
theorem Rk.start{w:Nat}{S:St}{gv:V}{fresh:List Bz}{D:Np}(h:S[w]?=some (wk0 gv))(hg:Gs w D fresh gv S)(hD:∀l,D l→l<S.length)(hw:¬ D w):Rk ⟨fresh,[],[]⟩ true true w gv [] st0 (fun _=>False) D S:=by
 refine ⟨⟨.sl true [],.sl true [],?_,.inl ⟨rfl,rfl⟩,.inl ⟨rfl,rfl⟩,fun l a b c hh=>by cases hh⟩,?_,?_,id,hw,fun l hl=>hl.elim,glt h⟩
 ·unfold wkO st0;unfold wk0 at h;exact h
 ·rcases hg with ⟨h1,h2⟩|⟨l,wr,h1,h2,h3,h4,h5⟩
  ·exact .inl ⟨true,by rw[h1,h2];rfl⟩
  ·exact .inr ⟨l,wr,h1,h3,h4,h5⟩
 ·rintro l (hl|hl)
  ·exact hl.elim
  ·exact hD l hl
section
variable {f:Nat→Bz} {nm:Bz→Bool} (hf:∀k,nm (f k)=false) (r:Rp) (z:Bz)
include hf
theorem qbO(sc:Scs)(t:Bz)(st:Rst)(ht:nm t=true):z∈(qbG r sc t st).free↔z∈st.free∨z∈[jo f sc t].filter nm:=by
 unfold qbG jo
 cases sc.at t with
 | none=>simp[ht]
 | some k=>simp[hf]
omit hf in
theorem qoL{a b c:Prop}:(a∨b)∨c↔a∨c∨b:=⟨by rintro ((h|h)|h) <;> simp[h],by rintro (h|h|h) <;> simp[h]⟩
mutual
theorem Ex.rfr(sc:Scs):∀(x:Ex) (st:Rst),(Pa.ex x).valid nm=true→(z∈(Ex.rs r sc st x).free↔z∈st.free∨z∈(Ex.occ (x.w f sc)).filter nm)
 | .mk k o n m e t a,st,v=>by
  have va:=Ex.valid_args v;simp only[Ex.args] at va;have h1:=(Pa.valid_iff.1 v).1;rw[Ex.rs,Ex.w,Ex.occ,qqH,qqc];by_cases h6:k=6
  ·subst h6;have hn:Ex.named 6=true:=rfl;simp[Pa.vOwn,Ex.vOwn] at h1;obtain ⟨⟨⟨⟨_,rfl⟩,rfl⟩,rfl⟩,rfl,rfl⟩:=h1;rw[if_pos rfl,qbO hf r z sc t st (Ex.valid_text v hn),hn,if_pos rfl,if_pos rfl];simp[Ex.wl,Ex.occl]
  ·rw[if_neg h6,Ex.rfrl sc a _ va];by_cases h78:k=7∨k=8
   ·have hn:Ex.named k=true:=by unfold Ex.named;rcases h78 with rfl|rfl <;> rfl
    have h2:(zN r sc t st).free=(qbG r sc t st).free:=rfl;rw[if_pos h78,hn,if_pos rfl,if_pos rfl,h2,qbO hf r z sc t st (Ex.valid_text v hn),qoL]
   ·have hn:Ex.named k=false:=by unfold Ex.named;simp;omega
    rw[if_neg h78,hn];simp
theorem Ex.rfrl(sc:Scs):∀(l:List Ex) (st:Rst),(∀x,x∈l→(Pa.ex x).valid nm=true)→(z∈(Ex.rsl r sc st l).free↔z∈st.free∨z∈(Ex.occl (Ex.wl f sc l)).filter nm)
 | [],st,_=>by simp[Ex.rsl,Ex.wl,Ex.occl]
 | x::l,st,v=>by
  rw[Ex.rsl,Ex.wl,Ex.occl,Ex.rfrl sc l _ fun y hy=>v y (by simp[hy]),Ex.rfr sc x st (v x (by simp)),qqH,qqc,or_assoc]
end
theorem El.rfrl(sc:Scs):∀(l:List El) (st:Rst),(∀x,x∈l→(Pa.el x).valid nm=true)→(z∈(El.rsl r sc st l).free↔z∈st.free∨z∈(El.occl (l.map (El.w f sc))).filter nm)
 | [],st,_=>by simp[El.rsl,El.occl]
 | x::l,st,v=>by
  have h1:=Ex.rfrl hf r z sc x.exps st (fun y hy=>(Pa.valid_iff.1 (v x (by simp))).2 _ (by simp only[Pa.kids];exact qqz hy));have h2:=El.rfrl sc l (Ex.rsl r sc st x.exps) fun y hy=>v y (by simp[hy])
  show z∈(El.rsl r sc (Ex.rsl r sc st x.exps) l).free↔_;rw[h2,h1,qqd,El.occl,qqH,qqc,or_assoc];unfold El.w;rw[←Ex.wl_map]
mutual
theorem Sm.rfr:∀(s:Sm) (sc:Scs) (n:Nat) (st:Rst),(Pa.st s).valid nm=true→(z∈(Sm.rs r sc n st s).free↔z∈st.free∨z∈(s.w f sc n).occ.filter nm)
 | .mk l k t g e el d b,sc,n,st,v=>by
  obtain ⟨v7,v8,v9⟩:=Sm.valid_block v;have vd:=Sm.valid_decls v;have vb:=Sm.valid_body v;have vg:=Sm.valid_targets v;have ve:=Sm.valid_exps v;have vl:=Sm.valid_elems v;have vt:=Sm.valid_text v;simp only[Sm.decls,Sm.body,Sm.targets,Sm.exps,Sm.elems,Sm.kind,Sm.text] at vd vb vg ve vl vt;rw[Sm.rs,Sm.w];by_cases h7:k=7
  ·obtain ⟨rfl,rfl,rfl⟩:=v7 h7;rw[if_pos h7,if_pos h7,Sm.occ,if_pos h7,qqH,qqc,Sm.rfrl b _ _ _ vb,De.rfrl d _ _ _ _ vd,or_assoc]
  ·rw[if_neg h7,if_neg h7];by_cases h8:k=8
   ·obtain ⟨rfl,rfl,rfl,rfl⟩:=v8 h8;rw[if_pos h8,if_pos h8,Sm.occ,if_neg h7,if_pos h8,Sm.rfrl b _ _ _ vb]
   ·obtain rfl:=v9 h7 h8;rw[if_neg h8,if_neg h8,Sm.occ,if_neg h7,if_neg h8,Sm.rfr1 b _ _ _ vb,Ex.rfrl hf r z sc e _ ve,El.rfrl hf r z sc el _ vl];have h2:∀st',(tgS r sc st' g).free=(Ex.rsl r sc st' g).free:=fun _=>rfl
    rw[h2,Ex.rfrl hf r z sc g _ vg];simp only[qqH,qqc];by_cases h6:k=6
    ·have h3:(zN r sc t st).free=(qbG r sc t st).free:=rfl;rw[if_pos h6,if_pos h6,if_pos h6,h3,qbO hf r z sc t st (vt h6)];constructor
     ·rintro (((((h|h)|h)|h)|h)|h) <;> simp[h]
     ·rintro (h|(((h|h)|h)|h)|h) <;> simp[h]
    ·rw[if_neg h6,if_neg h6];constructor
     ·rintro ((((h|h)|h)|h)|h) <;> simp[h]
     ·rintro (h|(((h|h)|h)|h)|h)
      ·simp[h]
      ·simp[h]
      ·simp[h]
      ·simp[h]
      ·simp[h]
      ·simp at h
theorem De.rfr:∀(s:De) (own sc:Scs) (n:Nat) (st:Rst),(Pa.de s).valid nm=true→(z∈(De.rs r own sc n st s).free↔z∈st.free∨z∈(s.w f own sc n).occ.filter nm)
 | .mk k o t ns e fo b,own,sc,n,st,v=>by
  obtain ⟨v4,v5⟩:=De.valid_proc v;have vb:=De.valid_body v;have ve:=De.valid_exps v;simp only[De.body,De.exps] at vb ve;rw[De.rs,De.w];by_cases h4:k=4
  ·obtain rfl:=v4 h4;rw[if_pos h4,if_pos h4,De.occ,if_pos h4,Sm.rfr1 b _ _ _ vb];rfl
  ·obtain ⟨rfl,rfl⟩:=v5 h4;rw[if_neg h4,if_neg h4,De.occ,if_neg h4];exact Ex.rfrl hf r z _ e st ve
theorem De.rfrl:∀(l:List De) (own sc:Scs) (n:Nat) (st:Rst),(∀x,x∈l→(Pa.de x).valid nm=true)→(z∈(De.rsl r own sc n st l).free↔z∈st.free∨z∈(De.occl (De.wl f own sc n l)).filter nm)
 | [],_,_,_,st,_=>by simp[De.rsl,De.wl,De.occl]
 | x::l,own,sc,n,st,v=>by
  rw[De.rsl,De.wl,De.occl,De.rfrl l own sc _ _ fun y hy=>v y (by simp[hy]),De.rfr x own sc n st (v x (by simp)),qqH,qqc,or_assoc]
theorem Sm.rfrl:∀(l:List Sm) (sc:Scs) (n:Nat) (st:Rst),(∀x,x∈l→(Pa.st x).valid nm=true)→(z∈(Sm.rsl r sc n st l).free↔z∈st.free∨z∈(Sm.occl (Sm.wl f sc n l)).filter nm)
 | [],_,_,st,_=>by simp[Sm.rsl,Sm.wl,Sm.occl]
 | x::l,sc,n,st,v=>by
  rw[Sm.rsl,Sm.wl,Sm.occl,Sm.rfrl l sc _ _ fun y hy=>v y (by simp[hy]),Sm.rfr x sc n st (v x (by simp)),qqH,qqc,or_assoc]
theorem Sm.rfr1:∀(l:List Sm) (sc:Scs) (n:Nat) (st:Rst),(∀x,x∈l→(Pa.st x).valid nm=true)→(z∈(Sm.rs1 r sc n st l).free↔z∈st.free∨z∈(Sm.occl (Sm.w1 f sc n l)).filter nm)
 | [],_,_,st,_=>by simp[Sm.rs1,Sm.w1,Sm.occl]
 | x::l,sc,n,st,v=>by
  rw[Sm.rs1,Sm.w1,Sm.occl,Sm.rfr1 l sc _ _ fun y hy=>v y (by simp[hy]),Sm.rfr x _ _ st (v x (by simp)),qqH,qqc,or_assoc]
end
end
def Sm.rfree(s:Sm):List Bz:=(s.rs r0 [qd s.labels 0] (qd s.labels 0).length st0).free
theorem Sm.rfree_same(s:Sm)(v:(Pa.st s).valid qb=true):s.rfree.foldl qg5 []=s.frees:=by
 refine qb3 (jy List.nodup_nil) fun z=>?_
 rw[qan,Sm.free_occ (f:=qoW) qcW s v];refine (Sm.rfr qcW r0 z s [qd s.labels 0] (qd s.labels 0).length st0 v).trans ?_;show z∈([]:List Bz)∨_↔_;rfl
structure Us(m c:Nat)(h:List Bz)(F D:Np)(U:St):Prop where
 fc:U[c]?=some (.arr [.map m] 1 1)
 fm:∃bs ck,qaY bs ck∧U[m]?=some (.map ((h.foldl Yv []).map kv) bs ck)
 hF:∀l,F l↔l=m
 hD:∀l,D l↔l=c
section
variable {m c:Nat} {h:List Bz} {F D:Np} {U:St}
end
end Go.Proofs.YtbifpocccfkhhaaGreatDoor


namespace Go.Proofs.YtbifpocccfkhhaaGreatDoor
open Go Go.Proofs.Tryz
theorem Sm.rfree_mem(s:Sm)(va:(Pa.st s).valid qb=true)(z:Bz):z∈s.rfree↔z∈s.frees:=by
 rw[←s.rfree_same va,(ZC (z:=z) List.Pairwise.nil).2];simp
theorem Sm.aps_ref(s:Sm)(va:(Pa.st s).valid qb=true)(taken:List Bz):apL taken s.rfree [] s.bounds=s.aps taken:=by
 unfold Sm.aps;exact qcb (fun x=>by rw[qan];simp) (fun x=>s.rfree_mem va x) _ _
theorem Sm.ap_ref(s:Sm)(va:(Pa.st s).valid qb=true)(taken:List Bz):s.wholeQ ⟨s.aps taken,[],[]⟩=s.ap taken:=by
 refine Sm.wholeQ_w (N:=(s.aps taken).length) ⟨fun k hk=>?_,rfl⟩ s (by rw[s.aps_length];exact qp0 _) va;show (s.aps taken)[k]?=_;unfold lf;rw[qpZ hk];rfl
theorem Gs.elems{w:Nat}{F:Np}{xs:List Bz}{v:V}{S:St}(h:Gs w F xs v S):Go.Proofs.YtbifpocccfkhhaaGreatDoor.elems S v=some (xs.map .str):=by
 rcases h with ⟨rfl,rfl⟩|⟨l,wr,h1,h2,rfl,h4,h5⟩
 ·rfl
 ·simp only[Go.Proofs.YtbifpocccfkhhaaGreatDoor.elems,h4];rw[if_pos ⟨h5,by omega⟩,qrO,qqt (by rw[qp2];exact qp0 _)]
theorem Gr.elems{sz n0:Nat}{xs:List V}{v:V}{S:St}(h:Gr sz n0 xs v S):Go.Proofs.YtbifpocccfkhhaaGreatDoor.elems S v=some xs:=by
 rcases h with ⟨rfl,rfl⟩|⟨l,wr,h1,rfl,h4,h5⟩
 ·rfl
 ·simp only[Go.Proofs.YtbifpocccfkhhaaGreatDoor.elems,h4];rw[if_pos ⟨h5,by omega⟩,qrO,qqo]
theorem qnG(s:Sm)(va:(Pa.st s).valid qb=true)(hsz:(Pa.st s).size<150)(hn:Sm.nb1 [s]<150)(b:Bool)(taken:List Bz)(ht:taken.length≤500)(S:St):
  qB prog 47 [s.v,.sl b (taken.map .str)] S (fun r U=>r=(s.ap taken).v∧Kp (fun _=>False) S U):=by
 refine qB.ib func47 ok47 ?_;obtain ⟨S1,hS1⟩:∃S1:St,S1=S++[.arr [s.v] 8 1,.arr [smZ] 8 1,wk0 (.sl true [])]:=⟨_,rfl⟩;have b0:S1[S.length]?=some (.arr [s.v] 8 1):=by rw[hS1];simp
 have b1:S1[S.length+1]?=some (.arr [smZ] 8 1):=by rw[hS1,qpV (by omega)];simp
 have b2:S1[S.length+2]?=some (wk0 (.sl true [])):=by rw[hS1,qpV (by omega)];simp
 have l1:S1.length=S.length+3:=by rw[hS1];simp
 have kS:Kp (fun _=>False) S S1:=by rw[hS1];exact (Kp.refl _ _).push _
 have d0:ldS S1 (.ptr S.length 0 0 1) (some 8)=some s.v:=by simp[ldS,b0]
 have k1:Rk r0 true true (S.length+2) (.sl true []) [] st0 (fun _=>False) (fun _=>False) S1:=Rk.start b2 (.inl ⟨rfl,rfl⟩) (fun _ h=>h.elim) id;simp[c47,qw,qh,ql];rw[←hS1];simp[d0];refine qm (qjd r0 qoK true true (S.length+2) _ s (by omega) st0 _ _ S1 k1 (by omega) (by show 0+_≤_;omega)) ?_;rintro r U ⟨rfl,F1,D1,k2,s2⟩;have kp1:Kp (fun l=>l=S.length+2) S1 U:=s2.k.mono fun l _ hh=>hh.elim id fun h=>h.elim
 have c0:=kp1.at b0 (by omega);have c1:=kp1.at b1 (by omega);have lU:=kp1.len;have kU:Kp (fun _=>False) S U:=⟨by omega,fun l hl hn=>by rw[kp1.get l (by omega) (by omega)];exact kS.get l hl hn⟩;obtain ⟨vb,vf,w1,w2,w3,w4⟩:=k2.wx;have hN:=s.bounds_len;have hfr:(s.rs r0 [qd s.labels 0] (qd s.labels 0).length st0).free=s.rfree:=rfl;have hfl:=Sm.rs_len r0 s [qd s.labels 0] (qd s.labels 0).length st0;have h0:st0.free.length=0:=rfl;rw[hfr] at w3 hfl;have w2:Gs (S.length+2) F1 s.bounds vb U:=w2;have ldb:ldS U (.ptr (S.length+2) 0 0 1) none=some vb:=by unfold wkO at w1;simp[ldS,w1]
 have ldf:∀X:St,X[S.length+2]?=U[S.length+2]?→ldS X (.ptr (S.length+2) 0 1 1) none=some vf:=fun X hX=>by
  unfold wkO at w1;rw[w1] at hX;simp[ldS,hX]
 obtain ⟨fv,U1,a1,g1,m1,m2,_⟩:=(Gr.nil 1 U.length U).appE (bytes:=16) w2.elems (Q2 _) (by simp;omega) (qp0 _);rw[qqn] at g1;have m2:∀(l:Nat) (o:Ob),U[l]?=some o→U1[l]?=some o:=fun l o ho=>m2 l o ho fun n=>by simp
 have hff:=g1.rd.flat;obtain ⟨Q,hQ⟩:∃Q,Q=U1.length:=⟨_,rfl⟩
 have hbw:ql (.agg [.sl true [],.sl true [],.sl true [],.sl true [],.sl true [],.bool false,.bool false]) [(2,1,fv)]=some (.agg [.sl true [],.sl true [],fv,.sl true [],.sl true [],.bool false,.bool false]):=by
  simp[ql,qc,hff]
 have hfn:∀x n,fv=.arr x 0 n n→x<Q:=fun x n hx=>by
  rcases g1 with ⟨_,rfl⟩|⟨l,wr,h1,rfl,h3,_⟩
  ·cases hx
  ·cases hx;rw[hQ];exact glt h3
 have f0:fits 1 ([]:List V)=true:=rfl;have hbl:s.bounds.length<150:=by omega
 simp[qw,qh,zk,ldb,a1,hbw,f0,hff];rw[←hQ];obtain ⟨dn,hdn⟩:∃dn:Nat→List Bz,dn=fun i=>apD taken s.rfree [] s.bounds i:=⟨_,rfl⟩
 have dn0:dn 0=[]:=by rw[hdn];simp[apD]
 have dnl:∀i,i≤s.bounds.length→(dn i).length=i:=fun i hi=>by rw[hdn];simpa using YW taken s.rfree s.bounds [] i hi
 have dns:∀i (hi:i<s.bounds.length),dn (i+1)=dn i++[apN taken s.rfree (dn i) s.bounds[i] (s.bounds.drop (i+1))]:=fun i hi=>by rw[hdn];exact qai taken s.rfree s.bounds [] i hi
 obtain ⟨Inv,hInv⟩:∃Inv:Nat→St→Prop,∀i X,Inv i X↔(X[Q]?=some (wk0 fv)∧Gr 1 U.length ((dn i++s.bounds.drop i).map .str) fv X∧∀l,l<U.length→X[l]?=U[l]?):=⟨_,fun _ _=>Iff.rfl⟩;have hcl:∀i,i≤s.bounds.length→(dn i++s.bounds.drop i).length=s.bounds.length:=fun i hi=>by rw[qp8,dnl i hi,List.length_drop];omega
 refine qE (fun e X=>Inv s.bounds.length X∧e.get 2=some (.ptr S.length 0 0 1)∧e.get 4=some (.ptr (S.length+1) 0 0 1)∧e.get 6=some (.ptr Q 0 0 1)) ?_ ?_
 ·refine qq (fun j e X=>∃i:Nat,j=s.bounds.length - i∧i≤s.bounds.length∧Inv i X∧
   e=[(7,.int .i64 i),(6,.ptr Q 0 0 1),(5,.ptr (S.length+2) 0 0 1),(4,.ptr (S.length+1) 0 0 1),(2,.ptr S.length 0 0 1),(1,.sl b (taken.map .str))]) s.bounds.length _ ?_ ⟨0,by simp,by omega,(hInv _ _).2 ⟨?_,?_,?_⟩,rfl⟩ ?_
  ·exact Env.so (by simp)
  ·rw[hQ];simp
  ·rw[dn0,qrO,qqn];exact g1.keep fun l _ hl=>by rw[qpY hl]
  ·intro l hl;rw[qpY (by omega),qpZ hl];exact m2 l _ (qpZ hl)
  rintro j e X ⟨i,rfl,hi,hI,rfl⟩;obtain ⟨hq,hg,hk⟩:=(hInv _ _).1 hI;have hlen:=hg.rd.1;rw[hcl i hi] at hlen;have ld6:∀{Y:St},Y[Q]?=some (wk0 fv)→ldS Y (.ptr Q 0 2 1) none=some fv:=fun h=>by unfold wk0 at h;simp[ldS,h]
  by_cases hlt:i<s.bounds.length
  ·have hdr:s.bounds.drop i=s.bounds[i]::s.bounds.drop (i+1):=qqZ hlt;have hap:apN taken s.rfree (dn i) s.bounds[i] (s.bounds.drop (i+1))=if ZG s.bounds[i] taken=true then frs s.bounds[i] (s.rfree++(dn i++s.bounds[i]::s.bounds.drop (i+1))++taken) else s.bounds[i]:=rfl
   have hds:=dns i hlt;have hdl:=dnl i hi;have hxs:s.bounds[i].size≤16:=ZM (s.bounds_nm va _ (qp5 hlt));obtain ⟨cur,hcur⟩:∃cur,cur=dn i++s.bounds.drop i:=⟨_,rfl⟩;have hcn:=hcl i hi;rw[←hcur] at hg hcn;have hci:cur[i]?=some s.bounds[i]:=by rw[hcur,hdr,qpV (by omega),hdl];simp
   rw[←hdr,←hcur] at hap
   have hset:cur.set i (apN taken s.rfree (dn i) s.bounds[i] (s.bounds.drop (i+1)))=dn (i+1)++s.bounds.drop (i+1):=by
    rw[hds,hcur,List.set_append_right _ _ (by omega),hdl,qp4,hdr,Nat.sub_self];rfl
   obtain ⟨x,hxx⟩:∃x,x=s.bounds[i]:=⟨_,rfl⟩;rw[←hxx] at hap hci hxs hset;obtain ⟨q,q1,q2⟩:=hg.rd.2 i (by omega)
   have hcx:cur[i]'(by omega)=x:=by
    have:=(qpU.1 hci).2;exact this
   rw[hcx] at q2;simp[ld6 hq,zk,↓yz,hlen,hlt,q1,q2];refine qj (qnv b taken x X (by omega)) ?_
   cases hin:ZG x taken with
   | false=>
    rw[hin,if_neg (by simp)] at hap;rw[hap,qc3 hci] at hset;simp[qO (n:=(i:Int)+1)];refine ⟨_,?_,_,?_,i+1,rfl,by omega,(hInv _ _).2 ⟨hq,by rw[←hset];exact hg,hk⟩,rfl⟩
    ·omega
    ·exact Env.so (by simp)
   | true=>
    rw[hin,if_pos rfl] at hap;have lQ:=glt hq;have lw:=glt w1;have lfX:=ldf X (hk _ lw);have w3X:Gs (S.length+2) F1 s.rfree vf X:=w3.keep fun l o hl ho=>by rw[hk l (k2.lt l (.inl hl))];exact ho
    obtain ⟨v1,X1,r1,j1,n1,o1,_⟩:=(Gr.nil 1 X.length X).appE (bytes:=16) w3X.elems (Q2 _) (by simp;omega) (qp0 _);have o1:∀(l:Nat) (o:Ob),X[l]?=some o→X1[l]?=some o:=fun l o ho=>o1 l o ho fun n=>by simp
    have kp:∀{Y:St},(∀(l:Nat) (o:Ob),X[l]?=some o→Y[l]?=some o)→Gr 1 U.length (cur.map .str) fv Y:=fun h=>hg.keep fun l _ hl=>by
     rw[qpZ hl];exact h l _ (qpZ hl)
    obtain ⟨v2,X2,r2,j2,n2,o2,_⟩:=j1.appE (bytes:=16) (kp o1).elems (Q2 _) (by simp;omega) n1;have o2:∀(l:Nat) (o:Ob),X[l]?=some o→X2[l]?=some o:=fun l o ho=>o2 l o (o1 l o ho) fun n=>j1.ne (glt ho) n
    obtain ⟨v3,X3,r3,j3,n3,o3,_⟩:=j2.appE (bytes:=16) (yf X2 b (taken.map .str)) (Q2 _) (by simp;omega) (by omega);have o3:∀(l:Nat) (o:Ob),X[l]?=some o→X3[l]?=some o:=fun l o ho=>o3 l o (o2 l o ho) fun n=>j2.ne (glt ho) n
    obtain ⟨all,hall⟩:∃all,all=s.rfree++cur++taken:=⟨_,rfl⟩;have j3:Gr 1 X.length (all.map .str) v3 X3:=by rw[hall,qqe,qqe];simpa using j3
    rw[←hall] at hap;have hal:all.length≤899:=by rw[hall];simp;omega
    have hq1:=o1 _ _ hq;have hq3:=o3 _ _ hq;simp[f0,zk,lfX,r1,ld6 hq1,r2,r3];simp[Qd,zA,zK,ld6 hq,ld6 hq1]
    obtain ⟨a,wr,ha1,hfv,ha3,ha4⟩:∃a wr,U.length≤a∧fv=.arr a 0 cur.length cur.length∧X3[a]?=some (.arr (cur.map .str) 1 wr)∧wr≤cur.length:=by
     rcases kp o3 with ⟨h1,_⟩|⟨a,wr,h1,h2,h3,h4⟩
     ·have:cur.length=0:=by rw[←qp2 (f:=V.str),h1];rfl
      omega
     ·rw[qp2] at h2 h4;exact ⟨a,wr,h1,h2,h3,h4⟩
    have hiL:i<cur.length:=by omega
    have z1:iaS X3 1 fv i=some (.ptr a i 0 cur.length):=by
     rw[hfv];simp only[iaS,ha3];rw[if_pos ⟨ha4,trivial,by omega,by omega⟩];simp
    have z2:ldS X3 (.ptr a i 0 cur.length) none=some (.str x):=by
     simp only[ldS,ha3];rw[if_pos ⟨ha4,hiL⟩];simp[hci,V.part,V.cells]
    have hcg:cur[i]?=some x:=hci
    have z3:∀t,stS X3 (.ptr a i 0 cur.length) 1 (.str t)=some (X3.set a (.arr ((cur.set i t).map .str) 1 cur.length)):=fun t=>by
     simp[stS,ha3,ha4,hiL,hcg,qoy,V.size,V.cells,V.flat,List.map_set]
    simp[zk,ld6 hq3,z1,z2];refine Qa (qjW v3 x all X3 j3.rd hxs hal) ⟨_,X3,⟨_,rfl,(zu.exists x all hal).choose_spec⟩,rfl⟩ ?_;rintro r X4 ⟨⟨t,rfl,hfr⟩,rfl⟩;rw[qhh hfr] at hap;rw[hap] at hset;simp[z1,z3];simp[Qd,zA,zK,ld6 hq3];have haQ:a<Q:=hfn a _ hfv;simp[qO (n:=(i:Int)+1)];refine ⟨_,?_,_,?_,i+1,rfl,by omega,(hInv _ _).2 ⟨?_,.inr ⟨a,cur.length,ha1,?_,?_,?_⟩,fun l hl=>?_⟩,rfl⟩
    ·omega
    ·exact Env.so (by simp)
    ·rw[qpX (by omega)];exact hq3
    ·rw[qp2,←hset,List.length_set];exact hfv
    ·rw[qpW (glt ha3),←hset,List.map_set]
    ·rw[qp2,←hset,List.length_set];exact qp0 _
    ·rw[qpX (by omega)];have h1:=hk l hl;rw[qpZ hl] at h1 ⊢;exact o3 _ _ h1
  ·have:i=s.bounds.length:=by omega
   subst this;simp[ld6 hq,zk,↓yz,hlen];exact hI
 rintro e X ⟨hI,g2,g4,g6⟩;obtain ⟨hq,hg,hk⟩:=(hInv _ _).1 hI;have hfin:dn s.bounds.length=s.aps taken:=by rw[hdn,←s.aps_ref va taken];exact kQ taken s.rfree s.bounds []
 rw[List.drop_length,qqV,hfin] at hg;have lQ:=glt hq;have lw:=glt w1;have z0:X[S.length]?=some (.arr [s.v] 8 1):=by rw[hk _ (by omega)];exact c0
 have z1:X[S.length+1]?=some (.arr [smZ] 8 1):=by rw[hk _ (by omega)];exact c1
 have ld0:ldS X (.ptr S.length 0 0 1) (some 8)=some s.v:=by simp[ldS,z0]
 have hgs:Gs Q (fun l=>∃n,fv=.arr l 0 n n) (s.aps taken) fv X:=by
  rcases hg with ⟨h1,h2⟩|⟨l,wr,h1,h2,h3,h4⟩
  ·exact .inl ⟨by simpa using h1,h2⟩
  ·rw[qp2] at h2 h4;exact .inr ⟨l,wr,⟨_,h2⟩,by have:=hfn l _ h2;omega,h2,h3,h4⟩
 have k3:=Rk.start (D:=fun l=>∃n,fv=.arr l 0 n n) hq hgs (fun l ⟨n,hl⟩=>by have:=hfn l n hl;omega) fun ⟨n,hl⟩=>by have:=hfn Q n hl;omega
 simp[g2,g4,g6,ld0];refine qm (qjd ⟨s.aps taken,[],[]⟩ ⟨qp0 _,qqB _⟩ true true Q fv s (by omega) st0 _ _ X k3 (by omega) (by show 0+_≤_;omega)) ?_;rintro r Y ⟨hr,F2,D2,k4,s4⟩;rw[s.ap_ref va taken] at hr
 have kY:∀l,l<U.length→Y[l]?=U[l]?:=fun l hl=>by
  rw[s4.k.get l (by omega) (by rintro (hh|hh);omega;exact hh)];exact hk l hl
 have z2:Y[S.length+1]?=some (.arr [smZ] 8 1):=by rw[kY _ (by omega)];exact c1
 have lY:=s4.k.len;have hr8:r.size=8∧r.cells.all V.flat=true∧V.part r 0 (some 8)=some r:=by rw[hr];exact ⟨Sm.v_size _,by simp,JD _⟩
 have hst:stS Y (.ptr (S.length+1) 0 0 1) 8 r=some (Y.set (S.length+1) (.arr [r] 8 1)):=by simp[stS,z2,qc,hr8]
 simp[hst,g4];have hz:(Y.set (S.length+1) (.arr [r] 8 1))[S.length+1]?=some (.arr [r] 8 1):=qpW (glt z2);refine qi (vs:=[r]) (by simp[rvs,g4,ldS,hz,hr8]) ⟨hr,Kp.set ⟨by have:=kU.len;omega,fun l hl hn=>?_⟩ _ (.inr (by omega))⟩;rw[kY l (by omega)];exact kU.get l hl hn
open Classical in
theorem qmK(s:Sm)(b:Bool)(taken:List Bz)(os:s.ok):Fn prog 14 [s.v,.sl b (taken.map .str)] [] (.bool true):=by
 refine qB.ib func14 ok14 ?_;obtain ⟨S1,hS1⟩:∃S1:St,S1=[.arr [s.v] 8 1]:=⟨_,rfl⟩;have b0:S1[0]?=some (.arr [s.v] 8 1):=by rw[hS1];rfl
 have d0:ldS S1 (.ptr 0 0 0 1) (some 8)=some s.v:=by simp[ldS,b0]
 have ld:∀{U:St},Kp (fun _=>False) S1 U→ldS U (.ptr 0 0 0 1) (some 8)=some s.v:=fun k=>by
  have c0:=k.at b0 id;simp[ldS,c0]
 simp[c14,qw];rw[←hS1];simp[d0];refine qj (qnW s os S1) ?_
 cases la:s.light with
 | false=>
  simp;refine qj (qau S1) ?_;simp;exact qa rfl rfl rfl
 | true=>
 have zs:=jQ la;have ns:=qno la;by_cases h5:520<taken.length
 ·simp[show (520:Int)<taken.length by omega];refine qj (qau S1) ?_;simp;exact qa rfl rfl rfl
 simp[show ¬ (520:Int)<taken.length by omega,d0];refine qm (qnD s os zs ns b taken (by omega) S1) ?_;rintro r U1 ⟨rfl,k1⟩;have hle:apE s taken=if (Pa.st s).err qb≠0 then (Pa.st s).err qb else if 500<taken.length then 2 else (Pa.st (s.ap taken)).err qb:=rfl
 have hL:apV s taken=if apE s taken=0 then (s.ap taken).v else smZ:=rfl
 obtain ⟨y,hy⟩:∃y,y=apV s taken:=⟨_,rfl⟩
 have y8:y.size=8∧y.cells.all V.flat=true∧V.part y 0 (some 8)=some y:=by
  rw[hy,hL];split
  ·exact ⟨Sm.v_size _,by simp,JD _⟩
  ·exact ⟨rfl,rfl,rfl⟩
 rw[←hy];have hst:stS (U1++[.arr [smZ] 8 1]) (.ptr U1.length 0 0 1) 8 y=some (U1++[.arr [y] 8 1]):=by simp[stS,qc,y8]
 simp only[smZ] at hst;have k2:=k1.push [.arr [y] 8 1];have p0:=ld k2;simp[qw,hst,p0];obtain ⟨U2,hU2⟩:∃U2,U2=U1++[.arr [y] 8 1]:=⟨_,rfl⟩;have by2:U2[U1.length]?=some (.arr [y] 8 1):=by rw[hU2];simp
 rw[←hU2] at k2 p0 ⊢;refine qj (qiZ s os U2) ?_;by_cases es:(Pa.st s).err qb=0
 case neg=>
  rw[if_pos es] at hle;simp[es,hle];refine qj (qau U2) ?_;simp;exact qa rfl rfl rfl
 rw[if_neg (by rw[es];simp)] at hle;by_cases h6:500<taken.length
 ·rw[if_pos h6] at hle;simp[es,hle,show (500:Int)<taken.length by omega];refine qj (qau U2) ?_;simp;exact qa rfl rfl rfl
 rw[if_neg h6] at hle;have va:=(kR es).2;have oy:=s.ap_ok os va zs ns (taken:=taken) (by omega);simp[es,show ¬ (500:Int)<taken.length by omega,p0];refine qm (qnG s va zs ns b taken (by omega) U2) ?_;rintro r U3 ⟨rfl,k3⟩;obtain ⟨z,hz⟩:∃z,z=s.ap taken:=⟨_,rfl⟩;rw[←hz] at hle hL oy ⊢;have hst3:stS (U3++[.arr [smZ] 8 1]) (.ptr U3.length 0 0 1) 8 z.v=some (U3++[.arr [z.v] 8 1]):=by simp[stS,qc]
 simp only[smZ] at hst3;have by3:(U3++[Ob.arr [z.v] 8 1])[U1.length]?=some (.arr [y] 8 1):=gp (k3.at by2 id);have by4:(U3++[Ob.arr [z.v] 8 1])[U3.length]?=some (.arr [z.v] 8 1):=by simp
 have l3:ldS (U3++[Ob.arr [z.v] 8 1]) (.ptr U1.length 0 0 1) (some 8)=some y:=by simp[ldS,by3,y8]
 have l4:ldS (U3++[Ob.arr [z.v] 8 1]) (.ptr U3.length 0 0 1) (some 8)=some z.v:=by simp[ldS]
 simp[qw,hst3,l4];obtain ⟨U4,hU4⟩:∃U4,U4=U3++[Ob.arr [z.v] 8 1]:=⟨_,rfl⟩;rw[←hU4] at l3 l4 ⊢;refine qj (qiZ z oy U4) ?_;simp;refine qj (qau U4) ?_;rw[hle];by_cases h0:(Pa.st z).err qb=0
 case neg=>
  simp[h0];exact qa rfl rfl rfl
 have hyv:y=z.v:=by rw[hy,hL,hle,if_pos h0]
 have fz:(Pa.st z).fits:=by rw[hz];exact Sm.whole_fits _ s (kR es).1
 simp[h0,l3,l4];rw[hyv];refine qj (qm0 z z oy oy fz fz U4) ?_;simp;exact qa rfl rfl rfl
end Go.Proofs.YtbifpocccfkhhaaGreatDoor
namespace Go.Proofs.YtbifpocccfkhhaaGreatDoor.copyAparts
open Go Go.ChangeShapes Go.WideShapes Go.ChangeAt Go.RowKit
set_option maxRecDepth 100000
theorem own:ownKnob Tryz.prog.godebug=none:=by kernel_rfl
theorem contract(H:Type)(enc:TypeId×Value→H)(W:World)(base:Nat)(args:Array Value)(ds gs:List (DataW H))(before:List MemPlace)
  (hval:∀(j:Nat) t v,Tryz.f14.params[j]?=some t→args[j]?=some v→Value.okWide Tryz.prog W .any base t v)
  (hW:DataW.Whole enc Tryz.prog Tryz.f14.params.toList Rows.copyApartsSpec.vars false W args.toList ds gs before)
  (hwt:(DataW.weightsEach Tryz.prog (Tryz.f14.params.toList++(OpenSpec.ofChange Rows.copyApartsSpec).bare.plain.varTypes Tryz.prog) (ds++gs)).all (·≤reachBytes)=true) (hL:laidMetH Tryz.prog Rows.copyApartsRow.laid W):
  Calls Tryz.prog 14 args W fun e W'=>∃v,e=.returned v∧Rows.copyApartsSpec.post enc Tryz.prog Tryz.f14 false true false false W args v W':=by
 have hW':=hW;obtain ⟨p,q,hA0,hV,rfl,hfz,hnd⟩:=hW;have hA:DataW.TrodAll enc Tryz.prog W 0 (fun _=>true) true Tryz.f14.params.toList args.toList ds p:=hA0;rw[Tryz.params14] at hA hval hwt;obtain ⟨v0,vs0,d0,ds0,p0,q0,hv0,hd0,h0,hA0⟩:=trodAll_cons hA;obtain ⟨v1,vs1,d1,ds1,p1,q1,hv1,hd1,h1,hA1⟩:=trodAll_cons hA0;obtain ⟨hve,hde⟩:=trodAll_nil hA1;have hds:ds=[d0,d1]:=by rw[hd0,hd1,hde]
 have hargs:args=#[v0,v1]:=by
  apply qrN.1;rw[hv0,hv1,hve]
 subst hds hargs;obtain ⟨rfl,rfl⟩:=trodVars_none hV;rw[qqV] at hwt;obtain ⟨a0,o0,r0⟩:=stmt_in (hval 0 28 v0 rfl rfl) h0 (fitw_of hwt (i:=0) rfl rfl);obtain ⟨a1,o1,r1⟩:=strs_in (hval 1 22 v1 rfl rfl) h1 (fitw_of hwt (i:=1) rfl rfl);refine law_of (qmK a0 false a1 o0) (SR.start hL) ⟨rfl,fun i v u hv hu=>?_⟩ (by kernel_rfl) rfl rfl hW' rfl
 match i,hv,hu with
 | 0,hv,hu=>cases hv;cases hu;exact r0
 | 1,hv,hu=>cases hv;cases hu;exact r1
noncomputable def laidWorld(os:Os):World:=
 let N:=(World.settled Tryz.prog os).heap.size
 let w0:=World.holding Tryz.prog os ⟨#[.cells (#[9,13,1,32,133,101,160,5760,5600,8192,8202,1,8232,8233,1,8239,8287,48,12288,12288,1].map fun (z:Nat)=>Value.int .u16 (z:Int)) 279,.cells #[.slice (some ⟨N,0,none⟩) 7 7,.slice none 0 0,.int .i64 2] 276],#[],[]⟩
 let put (h:Array Obj) (g:Nat) (cs:Array Value):Array Obj:=h.modify g fun
  | .cells _ t frozen=>.cells cs t frozen
  | o=>o
 let h1:=put w0.heap 0 (Lib.asciiSpaceTab.map fun z=>Value.int .u8 z).toArray
 let h2:=put h1 1 #[.pointer (some ⟨N+1,0,none⟩)]
 let h3:=put h2 2 (Lib.pow10Tab.map fun z=>Value.int .u64 z).toArray
 let h4:=put h3 3 (#[0,1,28,2,29,14,24,3,30,22,20,15,25,17,4,8,31,27,13,23,21,19,16,7,26,12,18,6,11,5,10,9].map fun (z:Nat)=>Value.int .u8 (z:Int))
 let h5:=put h4 4 (#[0,1,56,2,57,49,28,3,61,58,42,50,38,29,17,4,62,47,59,36,45,43,51,22,53,39,33,30,24,18,12,5,63,55,48,27,60,41,37,16,46,35,44,21,52,32,23,11,54,26,40,15,34,20,31,10,25,14,19,9,13,8,7,6].map fun (z:Nat)=>Value.int .u8 (z:Int))
 { w0 with heap:=h5 }
def wArgs:Array Value:=#[.agg #[.slice none 0 0,.int .i64 0,.string ⟨#[]⟩,.slice none 0 0,.slice none 0 0,.slice none 0 0,.slice none 0 0,.slice none 0 0],.slice none 0 0]
theorem laid_met(os:Os):laidMet Tryz.prog Rows.copyApartsRow.laid ((laidWorld os).forCall (fun _ _=>0) ⟨#[],wArgs,[]⟩).memory:=
 laidMet_of_run' 10 (by kernel_rfl) (by kernel_rfl)
theorem reads(os:Os){H:Type}(enc:TypeId×Value→H):∃places,DataW.whole enc Tryz.prog ((laidWorld os).forCall (fun _ _=>0) ⟨#[],wArgs,[]⟩).memory Tryz.f14.params.toList Rows.copyApartsSpec.vars false wArgs.toList 8=some ([.agg [.nil,.lit (.int .i64 0),.lit (.string []),.nil,.nil,.nil,.nil,.nil],.nil],[],places):=
 ⟨[],by kernel_rfl⟩
theorem lifted(os:Os)(started:os.Started)(H:Type)(enc:TypeId×Value→H)(F:Stop.Interp):
  ReturnsInHanded {} Tryz.checked os 14 .any ((OpenSpec.ofChange Rows.copyApartsSpec).preRow enc Tryz.prog Tryz.f14 Rows.copyApartsRow.domain false Rows.copyApartsRow.laid) (((OpenSpec.ofChange Rows.copyApartsSpec).at F).post enc Tryz.prog Tryz.f14 false true false false):=by
 obtain ⟨places,hx⟩:=reads os enc;refine returnsInHanded_of_row (C:=Tryz.checked) (s:=OpenSpec.ofChange Rows.copyApartsSpec) own started (by kernel_rfl) Tryz.func14
  (witness_row_atRef (enc:=enc) (C:=Tryz.checked) false (laidWorld os) wArgs rfl (by kernel_rfl) (by kernel_rfl) (by kernel_rfl)
   (OpenSpec.preRow_of_cond 8 hx (by kernel_rfl) (fun k hk=>by cases hk) (by kernel_rfl) (laid_met os))) ?_
 intro W base args ds gs before hval hW _ _ hwt hL _ _;exact contract H enc W base args ds gs before hval hW hwt hL
theorem andT{a b:Bool}(ha:a=true)(hb:b=true):(a && b)=true:=by rw[ha,hb];rfl
theorem fact1:Rows.copyApartsRow.wf (OpenSpec.ofChange (OpenSpec.ofChange Rows.copyApartsSpec).bare)=true:=by kernel_rfl
theorem fact2:laidOutB Tryz.prog=true:=by kernel_rfl
theorem fact3:mapsRowed Tryz.prog=true:=by kernel_rfl
theorem fact4:Tryz.f14.params.all (Tryz.prog.readableRec ·)=true:=by kernel_rfl
theorem fact5:namedTie Tryz.prog Rows.copyApartsRow.named (OpenSpec.ofChange Rows.copyApartsSpec).bare.vars=true:=by kernel_rfl
theorem fact6:(Rows.copyApartsRow.stops==[])=true:=by kernel_rfl
theorem fact7:(Tryz.prog.stops==[])=true:=by kernel_rfl
theorem fact8:(Rows.copyApartsRow.knobs==[])=true:=by kernel_rfl
theorem fact9:(Tryz.prog.stopKnobs==[])=true:=by kernel_rfl
theorem fact10:(Rows.copyApartsRow.inPlace==Tryz.prog.inPlace 14)=true:=by kernel_rfl
theorem fact11:(Rows.copyApartsRow.unfollowed==Tryz.prog.unfollowed 14)=true:=by kernel_rfl
theorem fact12:(Rows.copyApartsRow.recurses==Tryz.prog.recurses 14)=true:=by kernel_rfl
theorem fact13:(Rows.copyApartsRow.named==Tryz.prog.varsNamed 14)=true:=by kernel_rfl
theorem fact14:(Rows.copyApartsRow.maps==(Tryz.f14.params.toList++(OpenSpec.ofChange Rows.copyApartsSpec).bare.plain.varTypes Tryz.prog).any (Tryz.prog.mapsRec ·))=true:=by kernel_rfl
theorem fact15:(Rows.copyApartsRow.ifaces==(Tryz.f14.params.toList++(OpenSpec.ofChange Rows.copyApartsSpec).bare.plain.varTypes Tryz.prog).any (Tryz.prog.ifacesRec ·))=true:=by kernel_rfl
theorem fact16:(Rows.copyApartsRow.mapsOut==Tryz.prog.mapsAmong Tryz.f14.resultTypes.toList)=true:=by kernel_rfl
theorem fact17:(Rows.copyApartsRow.loops==(Tryz.f14.params.toList++(OpenSpec.ofChange Rows.copyApartsSpec).bare.plain.varTypes Tryz.prog).any (Tryz.prog.loopsFrom ·))=true:=by kernel_rfl
theorem fact18:(Rows.copyApartsRow.wideKeys==((Tryz.f14.params.toList++(OpenSpec.ofChange Rows.copyApartsSpec).bare.plain.varTypes Tryz.prog)++Tryz.f14.resultTypes.toList).any (Tryz.prog.wideKeysFrom ·))=true:=by kernel_rfl
theorem fact19:(OpenSpec.ofChange Rows.copyApartsSpec).bare.vars.all (Tryz.prog.varReadable ·)=true:=by kernel_rfl
theorem fact20:Tryz.f14.resultTypes.all (fun t=>Tryz.prog.readableRec t && decide (t<Tryz.prog.types.size))=true:=by kernel_rfl
theorem fact21:(Rows.copyApartsRow.ifacesOut==Tryz.f14.resultTypes.toList.any (Tryz.prog.ifacesRec ·))=true:=by kernel_rfl
theorem fact22:(Rows.copyApartsRow.loopsOut==Tryz.f14.resultTypes.toList.any (Tryz.prog.loopsFrom ·))=true:=by kernel_rfl
theorem fact23:(Rows.copyApartsRow.plainKeys==Tryz.prog.plainKeys)=true:=by kernel_rfl
theorem fact24:Rows.copyApartsRow.shortTexts.isNone=true:=by kernel_rfl
theorem fact25:Tryz.prog.stopsHeard=true:=by kernel_rfl
theorem fact26:Tryz.prog.mayEnter=true:=by kernel_rfl
theorem fact27:(Rows.copyApartsRow.lifted==Tryz.prog.liftsFinal)=true:=by kernel_rfl
theorem fact28:(Tryz.prog.make==some Rows.copyApartsRow.make)=true:=by kernel_rfl
theorem fact29:(Rows.copyApartsRow.kinds==(if Rows.copyApartsRow.domain.isEmpty then [] else Tryz.f14.params.toList.map fun t=>match Tryz.prog.underlying t with|some (.int k)=>some k|_=>none))=true:=by kernel_rfl
theorem fact30:(Rows.copyApartsRow.pinned==Rows.copyApartsRow.pinnedBy)=true:=by kernel_rfl
theorem fact31:(Rows.copyApartsRow.veiled==((Tryz.f14.params.toList++(OpenSpec.ofChange Rows.copyApartsSpec).bare.plain.varTypes Tryz.prog)++Tryz.f14.resultTypes.toList).any (Tryz.prog.veiledRec ·))=true:=by kernel_rfl
theorem fact32:Rows.copyApartsRow.veiledFits Tryz.prog Tryz.f14.params.toList ((Tryz.f14.params.toList++(OpenSpec.ofChange Rows.copyApartsSpec).bare.plain.varTypes Tryz.prog)++Tryz.f14.resultTypes.toList)=true:=by kernel_rfl
theorem facts:joinedFacts Tryz.pinned.checked.prog 14 Tryz.f14 (OpenSpec.ofChange Rows.copyApartsSpec).bare Rows.copyApartsRow=true:=(andT (andT (andT (andT (andT (andT (andT (andT (andT (andT (andT (andT (andT (andT (andT (andT (andT (andT (andT (andT (andT (andT (andT (andT (andT (andT (andT (andT (andT (andT (andT fact1 fact2) fact3) fact4) fact5) fact6) fact7) fact8) fact9) fact10) fact11) fact12) fact13) fact14) fact15) fact16) fact17) fact18) fact19) fact20) fact21) fact22) fact23) fact24) fact25) fact26) fact27) fact28) fact29) fact30) fact31) fact32)
theorem name14:Tryz.pinned.checked.prog.funcNamed Rows.copyApartsRow.func=some 14:=by kernel_rfl
theorem inst14:Tryz.f14.isInstance Tryz.pinned.checked.prog Rows.copyApartsRow.origin Rows.copyApartsRow.targs:=of_decide_eq_true (by kernel_rfl)
theorem wrap14:Tryz.f14.isWrapper Tryz.pinned.checked.prog Rows.copyApartsRow.wrapper Rows.copyApartsRow.mainSum:=by unfold Func.isWrapper;first|(rw[if_pos (by decide+kernel)];kernel_rfl)|(rw[if_neg (by decide+kernel)];exact ⟨rfl,rfl⟩)
theorem said:Rows.CopyApartsSaid:=
 OpenClaim.holds_of_cond 14 Tryz.f14 rfl rfl rfl rfl rfl rfl rfl ⟨rfl,rfl,rfl,rfl,rfl⟩ rfl rfl rfl rfl rfl name14 Tryz.func14 facts inst14 wrap14
  (fun os started H enc _ F=>by rw[OpenClaim.pre_eq_preRow];exact lifted os started H enc F)
theorem looksT:false=Tryz.pinned.checked.prog.looks []:=by kernel_rfl
theorem stand22:Tryz.prog.wantsStandIn 22=false:=by kernel_rfl
theorem stand28:Tryz.prog.wantsStandIn 28=false:=by kernel_rfl
theorem named14 : Tryz.prog.funcNamed "manorboy/manorboylaw09.CopyAparts" = some 14 := by kernel_rfl
theorem plain (f : FuncId) (fn : Func) (hf : Tryz.pinned.checked.prog.funcNamed "manorboy/manorboylaw09.CopyAparts" = some f) (hfn : Tryz.pinned.checked.prog.funcs[f]? = some fn) :
  false=Tryz.pinned.checked.prog.looks []∧∀(j:Nat) t,fn.params[j]?=some t→Tryz.pinned.checked.prog.wantsStandIn t=false:=by
 obtain rfl:f=14:=Option.some.inj (named14.symm.trans hf) |>.symm;obtain rfl:fn=Tryz.f14:=(Option.some.inj (Tryz.func14.symm.trans hfn)).symm;refine ⟨looksT,fun j t ht=>?_⟩;rw[Tryz.params14] at ht;have:t=28∨t=22:=by simpa using Array.mem_of_getElem? ht
 rcases this with rfl|rfl
 ·exact stand28
 ·exact stand22
theorem wfText:Rows.copyApartsRow.wfByText (OpenSpec.ofChange Rows.copyApartsSpec)=true:=by kernel_rfl
theorem mainT:Tryz.pinned.checked.prog.mainIs=some (Rows.copyApartsCard.stood.harness.1,Rows.copyApartsCard.stood.harness.2.toList):=by kernel_rfl
theorem goesT:false=Rows.copyApartsRow.goesBy Tryz.pinned.checked.prog:=by kernel_rfl
theorem card:Rows.CopyApartsCardSaid:=
 Claim7.holds_tied_plain_at .later [] _ _ _ _ said (fun _ h=>by cases h) wfText (fun _ h=>by cases h) copyAparts_row_tie rfl ⟨rfl,rfl⟩ mainT rfl plain goesT
end Go.Proofs.YtbifpocccfkhhaaGreatDoor.copyAparts
namespace Go.Proofs.YtbifpocccfkhhaaGreatDoor
theorem copyAparts_holds:Rows.CopyApartsCardSaid:=copyAparts.card
end Go.Proofs.YtbifpocccfkhhaaGreatDoor
end
