/- A part. -/
import Derived.Test.YtbifpocccfkhhaaGreatDoorRl
import Derived.Sort.Walk0
set_option linter.all false
noncomputable section
namespace Go.Proofs.YtbifpocccfkhhaaGreatDoor
open Go
theorem qfs(h:coP.H)(sc:Scs)(t:Bz):(yR (coP.clH h t sc)).length≤(yR h).length+1:=by
 show (Prod.fst (coU h t sc)).length≤_;unfold coU yR;cases sc.at t <;> simp
mutual
theorem Ex.frn(sc:Scs)(tg:Bool):∀(x:Ex) (h:coP.H),(yR (Ex.hs coP sc tg h x)).length≤(yR h).length+(Pa.ex x).size
 | .mk k o n m e t a,h=>by
  have ha:=Ex.frnl sc false a h;have hz:=Pa.size_eq (.ex (.mk k o n m e t a));simp only[Pa.own,Pa.kids,Ex.args] at hz;have hc:=qfs (Ex.hsl coP sc false h a) sc t;rw[Ex.hs,qjc];split <;> omega
theorem Ex.frnl(sc:Scs)(tg:Bool):∀(l:List Ex) (h:coP.H),(yR (Ex.hsl coP sc tg h l)).length≤(yR h).length+qF (l.map Pa.ex)
 | [],h=>by simp[Ex.hsl]
 | x::l,h=>by
  have h1:=Ex.frn sc tg x h;have h2:=Ex.frnl sc tg l (Ex.hs coP sc tg h x);rw[Ex.hsl,qqd,sizes_cons];omega
end
theorem El.frnl(sc:Scs):∀(l:List El) (h:coP.H),(yR (El.hsl coP sc h l)).length≤(yR h).length+qF (l.map Pa.el)
 | [],h=>by simp[El.hsl]
 | x::l,h=>by
  have h1:=Ex.frnl sc false x.exps h;have h2:=El.frnl sc l (Ex.hsl coP sc false h x.exps);have hz:=Pa.size_eq (.el x);simp only[Pa.kids] at hz;show (yR (El.hsl coP sc (Ex.hsl coP sc false h x.exps) l)).length≤_;rw[qqd,sizes_cons];omega
mutual
theorem Sm.frn:∀(s:Sm) (sc:Scs) (n:Nat) (h:coP.H),(yR (Sm.hs coP sc n h s)).length≤(yR h).length+(Pa.st s).size
 | .mk l k t g e el d b,sc,n,h=>by
  have hz:=Sm.size_parts' (.mk l k t g e el d b);simp only[Sm.labels,Sm.targets,Sm.exps,Sm.elems,Sm.decls,Sm.body] at hz;have e1:=Ex.frnl sc true g h;rw[Sm.hs];split
  ·have e2:=De.frnl d (qd (qg d b) n::sc) sc (n+(qd (qg d b) n).length) (enters coP (Ex.hsl coP sc true h g) (qd (qg d b) n));have e3:=Sm.frnl b (qd (qg d b) n::sc) (n+(qd (qg d b) n).length+De.nbl d) (De.hsl coP (qd (qg d b) n::sc) sc (n+(qd (qg d b) n).length) (enters coP (Ex.hsl coP sc true h g) (qd (qg d b) n)) d);rw[zL] at e2;omega
  ·split
   ·have e3:=Sm.frnl b (qd (qk b) n::sc) (n+(qd (qk b) n).length) (enters coP (Ex.hsl coP sc true h g) (qd (qk b) n));rw[zL] at e3;omega
   ·have e2:=Ex.frnl sc false e (Ex.hsl coP sc true h g);have e3:=El.frnl sc el (Ex.hsl coP sc false (Ex.hsl coP sc true h g) e);have e4:=Sm.frn1 b sc n (El.hsl coP sc (Ex.hsl coP sc false (Ex.hsl coP sc true h g) e) el);have hc:=qfs (Sm.hs1 coP sc n (El.hsl coP sc (Ex.hsl coP sc false (Ex.hsl coP sc true h g) e) el) b) sc t;rw[qi5];split <;> omega
theorem De.frn:∀(s:De) (own sc:Scs) (n:Nat) (h:coP.H),(yR (De.hs coP own sc n h s)).length≤(yR h).length+(Pa.de s).size
 | .mk k o t ns e fo b,own,sc,n,h=>by
  have hz:=De.size_parts' (.mk k o t ns e fo b);simp only[De.names,De.formals,De.exps,De.body] at hz;rw[De.hs];split
  ·have e1:=Ex.frnl own false e h;have e2:=Sm.frn1 b (qd (fo.map Fo.name) n::own) (n+(qd (fo.map Fo.name) n).length) (enters coP (Ex.hsl coP own false h e) (qd (fo.map Fo.name) n));rw[zL] at e2;omega
  ·have e1:=Ex.frnl (if k=2 then sc else own) false e h;omega
theorem De.frnl:∀(l:List De) (own sc:Scs) (n:Nat) (h:coP.H),(yR (De.hsl coP own sc n h l)).length≤(yR h).length+qF (l.map Pa.de)
 | [],_,_,_,h=>by simp[De.hsl]
 | x::l,own,sc,n,h=>by
  have h1:=De.frn x own sc n h;have h2:=De.frnl l own sc (n+De.nb x) (De.hs coP own sc n h x);rw[De.hsl,qqd,sizes_cons];omega
theorem Sm.frnl:∀(l:List Sm) (sc:Scs) (n:Nat) (h:coP.H),(yR (Sm.hsl coP sc n h l)).length≤(yR h).length+qF (l.map Pa.st)
 | [],_,_,h=>by simp[Sm.hsl]
 | x::l,sc,n,h=>by
  have h1:=Sm.frn x sc n h;have h2:=Sm.frnl l sc (n+Sm.nb x) (Sm.hs coP sc n h x);rw[Sm.hsl,qqd,sizes_cons];omega
theorem Sm.frn1:∀(l:List Sm) (sc:Scs) (n:Nat) (h:coP.H),(yR (Sm.hs1 coP sc n h l)).length≤(yR h).length+qF (l.map Pa.st)
 | [],_,_,h=>by simp[Sm.hs1]
 | x::l,sc,n,h=>by
  have h1:=Sm.frn x (qd x.labels n::sc) (n+(qd x.labels n).length) (enters coP h (qd x.labels n));have h2:=Sm.frn1 l sc (n+(qd x.labels n).length+Sm.nb x) (Sm.hs coP (qd x.labels n::sc) (n+(qd x.labels n).length) (enters coP h (qd x.labels n)) x);rw[zL] at h1;rw[Sm.hs1,qqd,sizes_cons];omega
end
theorem Sm.frees_len(s:Sm):(yR (s.wholeH coP coZ)).length≤(Pa.st s).size:=by
 have:=Sm.frn s [qd s.labels 0] (qd s.labels 0).length (enters coP coZ (qd s.labels 0));rw[zL] at this;have h0:(yR coZ).length=0:=rfl;show (yR (Sm.hs coP [qd s.labels 0] (qd s.labels 0).length (enters coP coZ (qd s.labels 0)) s)).length≤_;omega
theorem jy:∀{l ks:List Bz},ks.Nodup→(l.foldl Yv ks).Nodup
 | [],ks,h=>h
 | s::l,ks,h=>by
  refine jy (l:=l) ?_;unfold Yv;split
  ·exact h
  ·rename_i hs;exact List.nodup_append.2 ⟨h,by simp,fun a ha b hb=>by simp at hb;subst hb;rintro rfl;exact hs (zq.2 ha)⟩
theorem Js:∀{l ks:List Bz},(l.foldl Yv ks).length≤ks.length+l.length
 | [],ks=>by simp
 | s::l,ks=>by
  have:=Js (l:=l) (ks:=Yv ks s);have h2:(Yv ks s).length≤ks.length+1:=by unfold Yv;split <;> simp
  rw[qrR,qqs];omega
def Sm.frees(s:Sm):List Bz:=qa6 ((yR (s.wholeH coP coZ)).foldl Yv [])
theorem Co.at{m c4 c5 c6:Nat}{h:List Bz×List Bz}{v:V}{ps:List Nat}{F D:Np}{U:St}(k:Co m c4 c5 c6 h v ps F D U){i:Nat}(hi:i<h.2.length):
  ∃p l st,iaS U 1 v (i:Int)=some (.ptr l i 0 st)∧ldS U (.ptr l i 0 st) none=some (.ptr p 0 0 1)∧U[p]?=some (plc h.2[i] i h.2[i]):=by
 have hip:i<ps.length:=by rw[k.pn];exact hi
 obtain ⟨_,hp⟩:=k.pl i ps[i] h.2[i] (qpZ hip) (qpZ hi);rcases k.gr with ⟨h0,_⟩|⟨a,wr,rfl,ha,hw,_,_⟩
 ·rw[h0] at hip;simp at hip
 ·refine ⟨ps[i],a,ps.length,?_,?_,hp⟩
  ·simp only[iaS,ha];rw[if_pos ⟨hw,trivial,by omega,by omega⟩];simp
  ·simp only[ldS,ha];rw[if_pos ⟨hw,hip⟩];simp[hip]
theorem Co.lenS{m c4 c5 c6:Nat}{h:List Bz×List Bz}{v:V}{ps:List Nat}{F D:Np}{U:St}(k:Co m c4 c5 c6 h v ps F D U):lenS v=some (.int .i64 h.2.length):=by
 have:=k.pn;rcases k.gr with ⟨rfl,rfl⟩|⟨a,wr,rfl,_⟩
 ·rw[←this];rfl
 ·rw[←this];rfl
def ki(e:Bz×Int):V×V:=(.str e.1,.int .i64 e.2)
def qed:List (Bz×Int)→Bz→Int
 | [],_=>0
 | (k,v)::r,s=>if s=k then v else qed r s
def qip:List (Bz×Int)→Bz→Int→List (Bz×Int)
 | [],s,n=>[(s,n)]
 | (k,v)::r,s,n=>if s=k then (k,n)::r else (k,v)::qip r s n
theorem qdo(s:Bz)(n:Int)(x:Bz):∀ms,qed (qip ms s n) x=if x=s then n else qed ms x
 | []=>by simp[qip,qed]
 | (k,v)::r=>by
  unfold qip;by_cases h:s=k
  ·subst h;rw[if_pos rfl,qed,qed];split <;> rfl
  ·rw[if_neg h,qed,qed,qdo s n x r];by_cases hx:x=k
   ·subst hx;rw[if_pos rfl,if_pos rfl,if_neg (Ne.symm h)]
   ·rw[if_neg hx,if_neg hx]
theorem YC(s:Bz)(n:Int):∀(ms:List (Bz×Int)) (i:Nat),(zT .str (.str s) (ms.map ki) i=some none∧qed ms s=0∧qip ms s n=ms++[(s,n)])∨∃(j:Nat) (v:Int),zT .str (.str s) (ms.map ki) i=some (some (i+j,.int .i64 v))∧qed ms s=v∧qip ms s n=ms.set j (s,n)∧j<ms.length
 | [],i=>.inl ⟨rfl,rfl,rfl⟩
 | (k,v)::r,i=>by
  simp only[qqd,ki,zT,Jm];by_cases h:s=k
  ·subst h;refine .inr ⟨0,v,?_,?_,?_,by simp⟩
   ·simp
   ·rw[qed,if_pos rfl]
   ·rw[qip,if_pos rfl];rfl
  ·have hne:(s.data.toList==k.data.toList)=false:=by
    rw[beq_eq_false_iff_ne];intro hh;exact h (qry (Array.ext' hh))
   rw[hne];simp only;rw[qed,if_neg h,qip,if_neg h];rcases YC s n r (i+1) with ⟨h1,h2,h3⟩|⟨j,w,h1,h2,h3,h4⟩
   ·exact .inl ⟨h1,h2,by rw[h3];rfl⟩
   ·refine .inr ⟨j+1,w,?_,h2,by rw[h3];rfl,by simpa using h4⟩;rw[show i+(j+1)=i+1+j by omega];exact h1
def Cm(c:Bz→Int)(l:Nat)(S:St):Prop:=∃ms bs ck,S[l]?=some (.map (ms.map ki) bs ck)∧∀x,qed ms x=c x
theorem Cm.get{c:Bz→Int}{l:Nat}{S:St}(h:Cm c l S)(s:Bz):qdA S .str (.int .i64 0) false (.map l) (.str s)=some (.int .i64 (c s)):=by
 obtain ⟨ms,bs,ck,h,hc⟩:=h;unfold qdA;rw[if_pos (by rfl)];simp only[qb5,h];rcases YC s 0 ms 0 with ⟨h1,h2,_⟩|⟨j,v,h1,h2,_⟩
 ·rw[h1,←hc,h2];rfl
 ·rw[h1,←hc,h2];rfl
theorem Cm.put{c:Bz→Int}{l:Nat}{S:St}(h:Cm c l S)(s:Bz)(n:Int):∃es bs ck,qbz S .str (.map l) (.str s) (.int .i64 n)=some (S.set l (.map es bs ck))∧∀S':St,S'[l]?=some (.map es bs ck)→Cm (fun x=>if x=s then n else c x) l S':=by
 obtain ⟨ms,bs,ck,h,hc⟩:=h;have fin:∀(bs':List Nat) (ck':Nat) (S':St),S'[l]?=some (.map ((qip ms s n).map ki) bs' ck')→Cm (fun x=>if x=s then n else c x) l S':=fun bs' ck' S' hS=>⟨_,bs',ck',hS,fun x=>by rw[qdo,hc]⟩
 unfold qbz;rw[if_pos (by rfl)];simp only[h];rcases YC s n ms 0 with ⟨h1,h2,h3⟩|⟨j,v,h1,h2,h3,h4⟩
 ·rw[h1];refine ⟨_,bs++[ck],ck+1,rfl,fun S' hS=>fin (bs++[ck]) (ck+1) S' ?_⟩;rw[h3,qqe];exact hS
 ·rw[h1];refine ⟨_,bs,ck,rfl,fun S' hS=>fin bs ck S' ?_⟩;rw[h3,List.map_set];simpa[ki] using hS
theorem Cm.keep{c:Bz→Int}{l:Nat}{S S':St}(h:Cm c l S)(hk:∀o,S[l]?=some o→S'[l]?=some o):Cm c l S':=by
 obtain ⟨ms,bs,ck,h,hc⟩:=h;exact ⟨ms,bs,ck,hk _ h,hc⟩
open Classical in
def qmZ(P:Bz→Prop)(x:Bz):Bz:=if h:∃t,P t then Classical.choose h else x
def frs(x:Bz)(all:List Bz):Bz:=qmZ (fun t=>zu x all t) x
theorem qhh{x:Bz}{all:List Bz}{t:Bz}(h:zu x all t):frs x all=t:=by
 have he:∃t,zu x all t:=⟨t,h⟩;unfold frs qmZ;rw[dif_pos he];exact (Classical.choose_spec he).unique h
theorem qiD{x:Bz}{a b:List Bz}(h:∀y,y∈a↔y∈b):frs x a=frs x b:=by
 have:(fun t=>zu x a t)=fun t=>zu x b t:=by
  funext t;exact propext ⟨zu.same h,zu.same fun y=>(h y).symm⟩
 unfold frs;rw[this]
theorem zu.size_le{s:Bz}{taken:List Bz}{t:Bz}(h:zu s taken t)(hs:s.size≤16)(ht:taken.length≤899):t.size≤16:=by
 by_cases hm:s∈taken
 ·obtain ⟨n,h1,h2,h3,h4⟩:=QL s taken ht;rw[h.unique (.inr ⟨hm,n,h1,rfl,h3,h4⟩)];have hd:=qc7 n (by omega);unfold jt;simp only[ByteArray.size,List.size_toArray,qp8,qqR];omega
 ·rw[h.unique (.inl ⟨hm,rfl⟩)];exact hs
def Qb:List Bz→Bz→Int
 | [],_=>0
 | y::l,x=>(if x=y then 1 else 0)+Qb l x
theorem Z5(x:Bz)(m:List Bz):∀l,Qb (l++m) x=Qb l x+Qb m x
 | []=>by simp[Qb]
 | y::l=>by rw[qp7,Qb,Qb,Z5 x m l];omega
theorem JI(x:Bz):∀l,0≤Qb l x∧Qb l x≤l.length
 | []=>by simp[Qb]
 | y::l=>by
  have:=JI x l;rw[Qb,qqs];split <;> omega
theorem qdh(x:Bz):∀l,0<Qb l x↔x∈l
 | []=>by simp[Qb]
 | y::l=>by
  have h1:=qdh x l;have h2:=JI x l;rw[Qb,qqk];by_cases h:x=y
  ·rw[if_pos h];exact ⟨fun _=>.inl h,fun _=>by omega⟩
  ·rw[if_neg h];exact ⟨fun hh=>.inr (h1.1 (by omega)),fun hh=>by have:=h1.2 (hh.resolve_left h);omega⟩
def apN(tk fr done:List Bz)(x:Bz)(rest:List Bz):Bz:=if ZG x tk=true then frs x (fr++(done++x::rest)++tk) else x
def apL(tk fr:List Bz):List Bz→List Bz→List Bz
 | done,[]=>done
 | done,x::rest=>apL tk fr (done++[apN tk fr done x rest]) rest
theorem YL(tk fr:List Bz):∀(rest done:List Bz),(apL tk fr done rest).length=done.length+rest.length
 | [],done=>by simp[apL]
 | x::rest,done=>by rw[apL,YL tk fr rest];simp;omega
def apD(tk fr:List Bz):List Bz→List Bz→Nat→List Bz
 | done,_,0=>done
 | done,[],_+1=>done
 | done,x::rest,i+1=>apD tk fr (done++[apN tk fr done x rest]) rest i
theorem kQ(tk fr:List Bz):∀(rest done:List Bz),apD tk fr done rest rest.length=apL tk fr done rest
 | [],done=>rfl
 | x::rest,done=>by rw[qqs,apD,apL,kQ tk fr rest]
theorem YW(tk fr:List Bz):∀(rest done:List Bz) (i:Nat),i≤rest.length→(apD tk fr done rest i).length=done.length+i
 | _,done,0,_=>by simp[apD]
 | [],done,i+1,h=>by simp at h
 | x::rest,done,i+1,h=>by
  rw[apD,YW tk fr rest _ i (by simpa using h)];simp;omega
theorem qai(tk fr:List Bz):∀(rest done:List Bz) (i:Nat) (h:i<rest.length),apD tk fr done rest (i+1)=apD tk fr done rest i++[apN tk fr (apD tk fr done rest i) rest[i] (rest.drop (i+1))]
 | [],_,_,h=>by simp at h
 | x::rest,done,0,h=>by simp[apD]
 | x::rest,done,i+1,h=>by
  rw[apD,qai tk fr rest _ i (by simpa using h)];rfl
def lf(l:List Bz)(k:Nat):Bz:=(l[k]?).getD ⟨⟨[]⟩⟩
theorem qii{tk fr done rest:List Bz}{x:Bz}(hx:x.size≤16)(hl:(fr++(done++x::rest)++tk).length≤899):(apN tk fr done x rest).size≤16:=by
 unfold apN;split
 ·obtain ⟨t,ht⟩:=zu.exists x _ hl;rw[qhh ht];exact ht.size_le hx hl
 ·exact hx
theorem qck(tk fr:List Bz):∀(rest done:List Bz),(∀x,x∈done→x.size≤16)→(∀x,x∈rest→x.size≤16)→fr.length+done.length+rest.length+tk.length≤899→∀x,x∈apL tk fr done rest→x.size≤16
 | [],done,h,_,_=>by rw[apL];exact h
 | y::rest,done,h,g,hl=>by
  rw[apL];rw[qqs] at hl;refine qck tk fr rest _ (fun x hx=>?_) (fun x hx=>g x (qra _ hx)) (by simp;omega);rcases qqc.1 hx with hx|hx
  ·exact h x hx
  ·simp at hx;subst hx;exact qii (g y (by simp)) (by simp;omega)
structure Frm(w:Nat)(P:Np→Np→St→Prop):Prop where
 push:∀{F D S},P F D S→∀os,P F D (S++os)
 set:∀{F D S},P F D S→∀{l} (o:Ob),Off w F D l→P F D (S.set l o)
 out:∀{F D S},P F D S→∀{l},S.length≤l→Off w F D l
theorem Gw.appF{w:Nat}{P:Np→Np→St→Prop}(fm:Frm w P){sz bytes:Nat}{F0 D0 F D:Np}{xs ys:List V}{v x:V}{S0 S:St}(h:Gw sz S0.length w F D xs v S)(k:P F D S)(s:Stp w F0 D0 S0 F D S)(hx:elems S x=some ys)(hy:fits sz ys=true)(hr:(xs.length+ys.length) * bytes≤2 ^ 47):
  ∃v' S',QP S sz bytes v x=some (v',S')∧Gw sz S0.length w F D (xs++ys) v' S'∧P F D S'∧Stp w F0 D0 S0 F D S'∧(∀l o,S[l]?=some o→(∀a b c,v≠.arr l a b c)→S'[l]?=some o)∧(∀l a b c,v'=.arr l a b c→v=.arr l 0 xs.length xs.length∨l=S.length):=by
 have hlen:=s.k.len;rcases h with ⟨rfl,rfl⟩|⟨l,wr,h1,h2,rfl,h3,h4⟩
 ·cases ys with
  | nil=>
   refine ⟨.sl true [],S,?_,.inl ⟨rfl,rfl⟩,k,s,fun _ _ h _=>h,fun l a b c hh=>by cases hh⟩;unfold QP;rw[hx];rfl
  | cons y ys=>
   refine ⟨.arr S.length 0 (y::ys).length (y::ys).length,S++[.arr (y::ys) sz (y::ys).length],?_,.inr ⟨S.length,(y::ys).length,hlen,fm.out k (qp0 _),by simp,by simp,by simp⟩,fm.push k _,s.push _,fun l o h _=>gp h,fun l a b c hh=>by cases hh;exact .inr rfl⟩;unfold QP;rw[hx];have hc:true=true∧fits sz (y::ys)=true∧(([]:List V).all fun v=>v.size==sz)=true∧(([]:List V).length+(y::ys).length) * bytes≤2 ^ 47:=⟨rfl,hy,rfl,hr⟩;show (if (y::ys).isEmpty=true then _ else _)=_;rw[if_neg (by simp),if_pos hc];simp
 ·have hc:0=0∧xs.length=xs.length∧xs.length=xs.length∧sz=sz∧fits sz ys=true∧(xs.length+ys.length) * bytes≤2 ^ 47:=⟨rfl,rfl,rfl,rfl,hy,hr⟩;have hlt:l<S.length:=(qpU.1 h3).1;refine ⟨.arr l 0 (xs.length+ys.length) (xs.length+ys.length),S.set l (.arr (xs++ys) sz wr),?_,.inr ⟨l,wr,h1,h2,by simp,by rw[qpW hlt],by simp;omega⟩,fm.set k _ h2,s.set _ h1,fun k o ho hne=>?_,fun l' a b c hh=>by cases hh;exact .inl rfl⟩
  ·unfold QP;rw[hx];show (match S[l]? with|_=>_)=_;rw[h3];show (if _ then _ else _)=_;rw[if_pos hc]
  ·rw[qpX (by rintro rfl;exact hne _ _ _ rfl)];exact ho
theorem Gw.app1F{w:Nat}{P:Np→Np→St→Prop}(fm:Frm w P){sz bytes:Nat}{F0 D0 F D:Np}{xs:List V}{y v:V}{S0 S:St}{b:Bool}(h:Gw sz S0.length w F D xs v S)(k:P F D S)(s:Stp w F0 D0 S0 F D S)(hy:fits sz [y]=true)(hr:(xs.length+1) * bytes≤2 ^ 47):
  ∃v' S',QP S sz bytes v (.sl b [y])=some (v',S')∧Gw sz S0.length w F D (xs++[y]) v' S'∧P F D S'∧Stp w F0 D0 S0 F D S'∧(∀l o,S[l]?=some o→(∀a b c,v≠.arr l a b c)→S'[l]?=some o)∧(∀l a b c,v'=.arr l a b c→v=.arr l 0 xs.length xs.length∨l=S.length):=
 h.appF fm k s (yf S b [y]) hy hr
theorem Gw.finF{w:Nat}{P:Np→Np→St→Prop}(fm:Frm w P){sz:Nat}{F0 D0 F D:Np}{xs:List V}{v:V}{S0 U:St}(h:Gw sz S0.length w F D xs v U)(k:P F D U)(s:Stp w F0 D0 S0 F D U):
  ∃U',zg S0.length v U (.sl false (xs.map V.weak)) U'∧P F D U'∧Stp w F0 D0 S0 F D U':=by
 rcases h with ⟨rfl,rfl⟩|⟨l,wr,h1,h2,rfl,h3,h4⟩
 ·exact ⟨U,zg.weak (r:=.sl true []),k,s⟩
 ·have g1:=zg.freeze (n:=S0.length) (l:=l) (off:=0) (len:=xs.length) (st:=xs.length) h3 h4 (by omega);simp only[qrO,qqo] at g1;have g2:zg S0.length (.sl false xs) (U.set l .dead) (V.sl false xs).weak (U.set l .dead):=zg.weak;simp only[V.weak,qM] at g2;exact ⟨_,g1.trans g2,fm.set k _ h2,s.set _ h1⟩
def Rd'(w:Nat)(P':Np→Np→St→Prop)(F D:Np)(S:St)(x:V)(r:V)(U:St):Prop:=r=x∧∃F' D',P' F' D' U∧Stp w F D S F' D' U
theorem Yh{w:Nat}{P:Np→Np→St→Prop}(fm:Frm w P){sz:Nat}{F0 D0 F D:Np}{xs:List V}{v:V}{S0 U:St}{rs:List RV}{e:Env}(hv:rvs e U rs=some [v])(h:Gw sz S0.length w F D xs v U)(k:P F D U)(s:Stp w F0 D0 S0 F D U){ys:List V}(hx:xs.map V.weak=ys):
  Z4 rs S0.length (fun r U=>Rd' w P F0 D0 S0 (.sl false ys) r U) .ret e U:=by
 obtain ⟨U',g,k',s'⟩:=h.finF fm k s;exact ⟨_,hv,_,U',g,by rw[hx],F,D,k',s'⟩
def LwF(w sz:Nat)(F D:Np)(S:St)(len:Nat)(P:Nat→Np→Np→St→Prop)(xs:Nat→List V)(env:Nat→V→Env)(j:Nat)(e:Env)(U:St):Prop:=∃(i:Nat) (gv:V) (F' D':Np),j=len - i∧i≤len∧Gw sz S.length w F' D' (xs i) gv U∧P i F' D' U∧Stp w F D S F' D' U∧e=env i gv
def WwF(w sz:Nat)(F D:Np)(S:St)(P:Np→Np→St→Prop)(reg:Nat)(xs:List V)(e:Env)(U:St):Prop:=∃(gv:V) (F' D':Np),e.get reg=some gv∧Gw sz S.length w F' D' xs gv U∧P F' D' U∧Stp w F D S F' D' U
def Gs(w:Nat)(F:Np)(xs:List Bz)(v:V)(S:St):Prop:=(xs=[]∧v=.sl true [])∨∃l wr,F l∧l≠w∧v=.arr l 0 xs.length xs.length∧S[l]?=some (.arr (xs.map .str) 1 wr)∧wr≤xs.length
def Fr(D:Np)(fv:V)(fresh:List Bz)(S:St):Prop:=(∃b,fv=.sl b (fresh.map .str))∨∃l wr,D l∧fv=.arr l 0 fresh.length fresh.length∧S[l]?=some (.arr (fresh.map .str) 1 wr)∧wr≤fresh.length
def wkO(r:Rp)(bf bt:Bool)(fv vb vf:V)(st:Rst):Ob:=.arr [.agg [vb,vf,fv,.sl bf (r.fro.map .str),.sl bt (r.to.map Ex.v),.bool st.bad,.bool st.caught]] 7 1
structure Rk(r:Rp)(bf bt:Bool)(w:Nat)(fv:V)(bound:List Bz)(st:Rst)(F D:Np)(S:St):Prop where
 wx:∃vb vf,S[w]?=some (wkO r bf bt fv vb vf st)∧Gs w F bound vb S∧Gs w F st.free vf S∧∀l a b c,vb=.arr l a b c→∀a' b' c',vf≠.arr l a' b' c'
 fr:Fr D fv r.fresh S
 lt:∀l,F l∨D l→l<S.length
 nF:¬ F w
 nD:¬ D w
 di:∀l,F l→¬ D l
 lw:w<S.length
theorem Gs.keep{w:Nat}{F:Np}{xs:List Bz}{v:V}{S U:St}(h:Gs w F xs v S)(hk:∀l o,F l→S[l]?=some o→U[l]?=some o):Gs w F xs v U:=by
 rcases h with h|⟨l,wr,h1,h2,h3,h4,h5⟩
 ·exact .inl h
 ·exact .inr ⟨l,wr,h1,h2,h3,hk l _ h1 h4,h5⟩
theorem Gs.flat{w:Nat}{F:Np}{xs:List Bz}{v:V}{S:St}(h:Gs w F xs v S):v.cells=[v]∧v.flat=true∧v.size=1∧lenS v=some (.int .i64 xs.length):=by
 rcases h with ⟨rfl,rfl⟩|⟨l,wr,h1,h2,rfl,h4,h5⟩ <;> exact ⟨rfl,rfl,rfl,rfl⟩
theorem Fr.keep{D:Np}{xs:List Bz}{v:V}{S U:St}(h:Fr D v xs S)(hk:∀l o,D l→S[l]?=some o→U[l]?=some o):Fr D v xs U:=by
 rcases h with h|⟨l,wr,h1,h3,h4,h5⟩
 ·exact .inl h
 ·exact .inr ⟨l,wr,h1,h3,hk l _ h1 h4,h5⟩
theorem Fr.rd{D:Np}{xs:List Bz}{v:V}{S:St}(h:Fr D v xs S):Rd v xs S:=by
 rcases h with ⟨b,rfl⟩|⟨l,wr,h1,rfl,h4,h5⟩
 ·exact Rd.sl b xs S
 ·exact Rd.arr h4 h5
theorem Rk.frm(r:Rp)(bf bt:Bool)(w:Nat)(fv:V)(bound:List Bz)(st:Rst):Frm w (Rk r bf bt w fv bound st) where
 push {F D S} h os:=by
  have g:∀l o,S[l]?=some o→(S++os)[l]?=some o:=fun l o h=>by rw[qpY (qpU.1 h).1];exact h
  obtain ⟨vb,vf,h1,h2,h3,h4⟩:=h.wx;exact ⟨⟨vb,vf,g _ _ h1,h2.keep fun l o _=>g l o,h3.keep fun l o _=>g l o,h4⟩,h.fr.keep fun l o _=>g l o,fun l hl=>by have:=h.lt l hl;simp;omega,h.nF,h.nD,h.di,by simp;have:=h.lw;omega⟩
 set {F D S} h l o hl:=by
  have g:∀k o',(k=w∨F k∨D k)→S[k]?=some o'→(S.set l o)[k]?=some o':=fun k o' hk h=>by
   rw[qpX]
   ·exact h
   ·rintro rfl;rcases hk with hk|hk|hk
    ·exact hl.1 hk
    ·exact hl.2.1 hk
    ·exact hl.2.2 hk
  obtain ⟨vb,vf,h1,h2,h3,h4⟩:=h.wx;exact ⟨⟨vb,vf,g _ _ (.inl rfl) h1,h2.keep fun l o h=>g l o (.inr (.inl h)),h3.keep fun l o h=>g l o (.inr (.inl h)),h4⟩,h.fr.keep fun l o h=>g l o (.inr (.inr h)),fun l hl=>by have:=h.lt l hl;simpa using this,h.nF,h.nD,h.di,by simpa using h.lw⟩
 out {F D S} h l hl:=⟨by have:=h.lw;omega,fun hf=>by have:=h.lt l (.inl hf);omega,fun hf=>by have:=h.lt l (.inr hf);omega⟩
def ScD(sc:Scs):Prop:=∀s,s∈sc→(s.map (·.1)).Nodup
theorem qm5{s:Sco}(x:Bz)(h:(s.map (·.1)).Nodup):Sco.at s.reverse x=Sco.at s x:=by
 induction s with
 | nil=>rfl
 | cons e s ih=>
  rw[qqd,List.nodup_cons] at h;have ih:=ih h.2;unfold Sco.at at ih ⊢;rw[List.reverse_cons,qro,List.find?_cons];by_cases hx:e.1=x
  ·have hn:s.reverse.find? (fun p=>decide (p.1=x))=none:=by
    rw[List.find?_eq_none];intro e' he' hh;simp only[decide_eq_true_eq] at hh;exact h.1 (by rw[hx,←hh];exact qqz (List.mem_reverse.1 he'))
   rw[hn];simp[hx]
  ·simp only[decide_eq_false hx];simp only[List.find?_cons,decide_eq_false hx,List.find?_nil,Option.or_none];exact ih
theorem qbI:∀(sc:Scs) (x:Bz),ScD sc→jl (Scs.flat sc) x=sc.at x
 | [],x,_=>rfl
 | s::r,x,h=>by
  have ih:=qbI r x fun s hs=>h s (qra _ hs)
  have hs:=qm5 x (h s (List.mem_cons_self ..));unfold jl Sco.at at *;simp only[Scs.flat,List.reverse_append,qro,Scs.at,Sco.at]
  cases hf:s.reverse.find? (fun p=>decide (p.1=x)) with
  | some p=>rw[hf] at hs;rw[←hs];simp
  | none=>rw[hf] at hs;rw[←hs];simpa using ih
theorem ZT:∀(l:List Bz) (s:Sco) (n:Nat),(s.map (·.1)).Nodup→((binds l s n).map (·.1)).Nodup
 | [],s,n,h=>h
 | x::l,s,n,h=>by
  simp only[binds];split
  ·exact ZT l s n h
  ·rename_i hx;refine ZT l _ _ ?_;rw[qqe,List.nodup_append];refine ⟨h,by simp,?_⟩;intro a ha b hb;simp at hb;subst hb;rintro rfl;obtain ⟨e,he,rfl⟩:=qql.1 ha;apply hx
   cases hf:Sco.at s e.1 with
   | some k=>rfl
   | none=>exact absurd rfl (qbr.1 hf e he)
theorem ScD.bind{sc:Scs}(h:ScD sc)(l:List Bz)(n:Nat):ScD (qd l n::sc):=fun s hs=>by
 rcases qqk.1 hs with rfl|hs
 ·exact ZT l [] n List.nodup_nil
 ·exact h s hs
theorem qbM:∀(k:Nat) (l:List Bz),l.length≤k→∀x,x∈nms l→x∈l
 | _,[],_,x,h=>by simp[nms,qd,binds] at h
 | 0,_::_,h,_,_=>by simp at h
 | k+1,y::l',h,x,hx=>by
  obtain ⟨l,z,hl⟩:∃l z,y::l'=l++[z]:=⟨(y::l').dropLast,(y::l').getLast (by simp),(List.dropLast_concat_getLast _).symm⟩;rw[hl] at h hx ⊢;have hk:l.length≤k:=by simp at h;exact h
  rw[qcr] at hx;split at hx
  ·exact qrk _ (qbM k l hk x hx)
  ·rcases qqc.1 hx with hx|hx
   ·exact qrk _ (qbM k l hk x hx)
   ·exact qrs _ hx
theorem jm{l:List Bz}{x:Bz}(h:x∈nms l):x∈l:=qbM _ l (qp0 _) x h
def Sm.bounds(s:Sm):List Bz:=nms s.labels++s.bn
def qoq(h:coP.H):List Bz:=Prod.snd (α:=List Bz) (β:=List Bz) h
theorem qjh:HInv coP fun l h=>qoq h=l where
 e x h:=by subst h;rfl
 n {l h} x sc tg hq:=by
  show Prod.snd (coU h x.text sc)=l;unfold coU;split <;> exact hq
 c {l h} x sc hq:=by
  show Prod.snd (coU h x sc)=l;unfold coU;split <;> exact hq
theorem Sm.whole_bounds(s:Sm):qoq (s.wholeH coP coZ)=s.bounds:=by
 have h0:qoq coZ=[]:=rfl;have h1:=qjh.enters h0 _ s.labels (qp0 _);have h2:=qjh.sm [qd s.labels 0] s h1;rw[qqn,zY] at h2;exact h2
theorem Sm.bounds_len(s:Sm):s.bounds.length=Sm.nb1 [s]:=by
 unfold Sm.bounds;simp only[qp8,zY,Sm.bn_length,Sm.nb1,qrI]
end Go.Proofs.YtbifpocccfkhhaaGreatDoor

namespace Go.Proofs.YtbifpocccfkhhaaGreatDoor
open Go
def ltB(a b:Bz):Prop:=a.data.toList<b.data.toList
theorem qb2(a:Bz):¬ ltB a a:=List.lt_irrefl _
theorem qaK{a b c:Bz}(h:ltB a b)(g:ltB b c):ltB a c:=List.lt_trans h g
theorem qm7{a b:Bz}(h:¬ ltB a b)(g:¬ ltB b a):a=b:=by
 have:=List.le_antisymm (List.not_lt.1 g) (List.not_lt.1 h);exact qry (Array.ext' this)
theorem qcM:∀{l m:List Bz},l.Pairwise ltB→m.Pairwise ltB→(∀x,x∈l↔x∈m)→l=m
 | [],[],_,_,_=>rfl
 | [],y::m,_,_,h=>absurd ((h y).2 (by simp)) (by simp)
 | x::l,[],_,_,h=>absurd ((h x).1 (by simp)) (by simp)
 | x::l,y::m,hl,hm,h=>by
  have hl':=qrQ.1 hl;have hm':=qrQ.1 hm
  have hxy:x=y:=by
   by_cases hxy:x=y
   ·exact hxy
   ·have h1:x∈m:=(qqk.1 ((h x).1 (by simp))).resolve_left hxy;have h2:y∈l:=(qqk.1 ((h y).2 (by simp))).resolve_left (Ne.symm hxy);exact absurd (qaK (hm'.1 x h1) (hl'.1 y h2)) (qb2 y)
  subst hxy;congr 1;refine qcM hl'.2 hm'.2 fun z=>⟨fun hz=>?_,fun hz=>?_⟩
  ·rcases qqk.1 ((h z).1 (qra _ hz)) with rfl|hz'
   ·exact absurd (hl'.1 z hz) (qb2 z)
   ·exact hz'
  ·rcases qqk.1 ((h z).2 (qra _ hz)) with rfl|hz'
   ·exact absurd (hm'.1 z hz) (qb2 z)
   ·exact hz'
theorem qbe{ks:List Bz}{x:Bz}:x∈qa6 ks↔x∈ks:=by
 unfold qa6;rw[qql];constructor
 ·rintro ⟨y,hy,rfl⟩;rw[List.mem_mergeSort] at hy;obtain ⟨k,hk,rfl⟩:=qql.1 hy;simpa using hk
 ·intro hx;exact ⟨x.data.toList,by rw[List.mem_mergeSort];exact qqz hx,by simp⟩
theorem qeq{ks:List Bz}(nd:ks.Nodup):(qa6 ks).Pairwise ltB:=by
 unfold qa6;rw[List.pairwise_map];have tr:∀a b c:List UInt8,decide (a≤b)=true→decide (b≤c)=true→decide (a≤c)=true:=fun a b c h1 h2=>by simp only[decide_eq_true_eq] at *;exact List.le_trans h1 h2
 have to:∀a b:List UInt8,(decide (a≤b) || decide (b≤a))=true:=fun a b=>by simp only[qrG,decide_eq_true_eq];exact List.le_total a b
 have h1:=List.pairwise_mergeSort tr to (ks.map fun k=>k.data.toList)
 have h2:((ks.map fun k=>k.data.toList).mergeSort fun x y=>decide (x≤y)).Nodup:=by
  refine ((List.mergeSort_perm _ _).nodup_iff).2 ?_;exact List.Pairwise.map _ (fun a b hab hh=>hab (qry (Array.ext' hh))) nd
 refine (h1.and h2).imp ?_;rintro a b ⟨h3,h4⟩;show a<b;simp only[decide_eq_true_eq] at h3;by_cases hlt:a<b
 ·exact hlt
 ·exact absurd (List.le_antisymm h3 (List.not_lt.1 hlt)) h4
def qg5:List Bz→Bz→List Bz
 | [],x=>[x]
 | y::l,x=>open Classical in if ltB y x then y::qg5 l x else if y=x then y::l else x::y::l
theorem kA{x z:Bz}:∀{l:List Bz},z∈qg5 l x↔z∈l∨z=x
 | []=>by simp[qg5]
 | y::l=>by
  unfold qg5;split
  ·rw[qqk,kA,qqk,or_assoc]
  ·split
   ·rename_i h;subst h;simp only[qqk];exact ⟨.inl,fun h=>h.elim id fun h=>.inl h⟩
   ·simp only[qqk];constructor
    ·rintro (h|h|h)
     ·exact .inr h
     ·exact .inl (.inl h)
     ·exact .inl (.inr h)
    ·rintro ((h|h)|h)
     ·exact .inr (.inl h)
     ·exact .inr (.inr h)
     ·exact .inl h
theorem qaC{x:Bz}:∀{l:List Bz},l.Pairwise ltB→(qg5 l x).Pairwise ltB
 | [],_=>by simp[qg5]
 | y::l,h=>by
  have h':=qrQ.1 h;unfold qg5;split
  ·rename_i hyx;refine qrQ.2 ⟨fun z hz=>?_,qaC h'.2⟩;rcases kA.1 hz with hz|rfl
   ·exact h'.1 z hz
   ·exact hyx
  ·rename_i hyx;split
   ·exact h
   ·rename_i hne
    have hxy:ltB x y:=by
     by_cases hh:ltB x y
     ·exact hh
     ·exact absurd (qm7 hyx hh) hne
    refine qrQ.2 ⟨fun z hz=>?_,h⟩;rcases qqk.1 hz with rfl|hz
    ·exact hxy
    ·exact qaK hxy (h'.1 z hz)
theorem ZC{z:Bz}:∀{l out:List Bz},out.Pairwise ltB→(l.foldl qg5 out).Pairwise ltB∧(z∈l.foldl qg5 out↔z∈out∨z∈l)
 | [],out,h=>⟨h,by simp⟩
 | x::l,out,h=>by
  obtain ⟨h1,h2⟩:=ZC (z:=z) (l:=l) (qaC (x:=x) h);refine ⟨h1,?_⟩;rw[qrR,h2,kA,qqk,or_assoc]
theorem qb3{l ks:List Bz}(nd:ks.Nodup)(h:∀x,x∈l↔x∈ks):l.foldl qg5 []=qa6 ks:=
 qcM (ZC (z:=⟨⟨[]⟩⟩) List.Pairwise.nil).1 (qeq nd) fun x=>by
  rw[(ZC (z:=x) List.Pairwise.nil).2,qbe,h];simp
theorem Gr.appE{sz n0 bytes:Nat}{xs ys:List V}{v x:V}{S:St}(h:Gr sz n0 xs v S)(hx:elems S x=some ys)(hy:fits sz ys=true)(hr:(xs.length+ys.length) * bytes≤2 ^ 47)(hn:n0≤S.length):
  ∃v' S',QP S sz bytes v x=some (v',S')∧Gr sz n0 (xs++ys) v' S'∧S.length≤S'.length∧(∀l o,S[l]?=some o→(∀n,v≠.arr l 0 n n)→S'[l]?=some o)∧(∀l n,v'=.arr l 0 n n→(∃m,v=.arr l 0 m m)∨S.length≤l):=by
 rcases h with ⟨rfl,rfl⟩|⟨l,wr,h1,rfl,h3,h4⟩
 ·by_cases he:ys=[]
  ·subst he;refine ⟨.sl true [],S,?_,.inl ⟨rfl,rfl⟩,qp0 _,fun _ _ h _=>h,fun l n h=>by cases h⟩;unfold QP;rw[hx];rfl
  ·have hei:ys.isEmpty=false:=by cases ys with
    | nil=>exact absurd rfl he
    | cons=>rfl
   refine ⟨.arr S.length 0 ys.length ys.length,S++[.arr ys sz ys.length],?_,.inr ⟨S.length,ys.length,hn,by simp,by simp,by simp⟩,by simp,fun l o ho _=>gp ho,fun l n h=>.inr (by injection h;omega)⟩;unfold QP;rw[hx];have hc:true=true∧fits sz ys=true∧(([]:List V).all fun v=>v.size==sz)=true∧(([]:List V).length+ys.length) * bytes≤2 ^ 47:=⟨rfl,hy,rfl,hr⟩;show (if ys.isEmpty=true then _ else _)=_;rw[if_neg (by rw[hei];simp),if_pos hc];simp
 ·have hc:0=0∧xs.length=xs.length∧xs.length=xs.length∧sz=sz∧fits sz ys=true∧(xs.length+ys.length) * bytes≤2 ^ 47:=⟨rfl,rfl,rfl,rfl,hy,hr⟩;have hlt:l<S.length:=(qpU.1 h3).1;refine ⟨.arr l 0 (xs.length+ys.length) (xs.length+ys.length),S.set l (.arr (xs++ys) sz wr),?_,.inr ⟨l,wr,h1,by simp,by rw[qpW hlt],by simp;omega⟩,by simp,fun k o ho hk=>?_,fun k n h=>.inl ?_⟩
  ·unfold QP;rw[hx];show (match S[l]? with|_=>_)=_;rw[h3];show (if _ then _ else _)=_;rw[if_pos hc]
  ·rw[qpX]
   ·exact ho
   ·rintro rfl;exact hk _ rfl
  ·injection h with h;subst h;exact ⟨_,rfl⟩
end Go.Proofs.YtbifpocccfkhhaaGreatDoor

namespace Go.Proofs.YtbifpocccfkhhaaGreatDoor
open Go Go.Proofs.Tryz
theorem Zh{r:Rp}{bf bt:Bool}{w:Nat}{fv:V}{bound:List Bz}{st:Rst}{F D:Np}{S:St}(hk:Rk r bf bt w fv bound st F D S):∃vb vf,ldS S (.ptr w 0 0 1) none=some vb∧ldS S (.ptr w 0 1 1) none=some vf∧ldS S (.ptr w 0 2 1) none=some fv∧ldS S (.ptr w 0 3 1) none=some (.sl bf (r.fro.map .str))∧ldS S (.ptr w 0 4 1) none=some (.sl bt (r.to.map Ex.v))∧ldS S (.ptr w 0 5 1) none=some (.bool st.bad)∧ldS S (.ptr w 0 6 1) none=some (.bool st.caught):=by
 obtain ⟨vb,vf,h,_⟩:=hk.wx;unfold wkO at h;refine ⟨vb,vf,?_,?_,?_,?_,?_,?_,?_⟩ <;> simp[ldS,h]
theorem kM(r:Rp)(bf bt:Bool)(w:Nat)(fv:V)(bound:List Bz)(st:Rst)(F D:Np)(S:St)(hk:Rk r bf bt w fv bound st F D S)(b:Bool)(sc:Scs)(hd:ScD sc)(hl:(Scs.flat sc).length≤1000000)(x:Bz):
  Fn prog 176 [.ptr w 0 0 1,.sl b ((Scs.flat sc).map yj),.str x] S (.str (yH r sc x)):=by
 refine qB.ib func176 ok176 ?_;obtain ⟨vb,vf,_,_,hfr,_⟩:=Zh hk;obtain ⟨hlen,hrd⟩:=hk.fr.rd;simp[c176];refine qj (qfK _ b x hl S) ?_;unfold qmV;rw[qbI sc x hd]
 have hr:yH r sc x=match sc.at x with
  | some k=>(r.fresh[k]?).getD x
  | none=>x:=rfl
 cases hat:sc.at x with
 | none=>
  rw[hat] at hr;simp only at hr;rw[hr];simp;exact qi rfl ⟨rfl,rfl⟩
 | some k=>
  rw[hat] at hr;simp only at hr;have hk0:(0:Int)≤k:=by omega
  by_cases hlt:k<r.fresh.length
  ·obtain ⟨p,hp1,hp2⟩:=hrd k hlt;rw[hr,qpZ hlt];simp[hk0,↓yz,zk,hfr,hlen,hlt,hp1,hp2];exact qi rfl ⟨rfl,rfl⟩
  ·rw[hr,qqT (by omega)];simp[hk0,↓yz,zk,hfr,hlen,hlt];exact qi rfl ⟨rfl,rfl⟩
theorem Q2(l:List Bz):fits 1 (l.map V.str)=true:=by simp[fits]
theorem qeU(l:List Sm)(hl:qF (l.map Pa.st)≤4000)(b:Bool)(w:Nat)(P:Np→Np→St→Prop)(fm:Frm w P)(F D:Np)(S:St)(hk:P F D S):
  qB prog 163 [.sl b (l.map Sm.v)] S (fun r U=>Rd' w P F D S (.sl false ((qk l).map .str)) r U):=by
 have hlen:l.length≤4000:=by have:=qT (l.map Pa.st);rw[qp2] at this;omega
 have hlab:∀i,i≤l.length→(qk (l.take i)).length≤4000:=fun i _=>by
  have:∀m:List Sm,(qk m).length≤qF (m.map Pa.st):=by
   intro m
   induction m with
   | nil=>simp[qk]
   | cons x m ih=>
    have:=Sm.size_parts x;simp only[qk,qqQ,qp8,qqd,sizes_cons] at ih ⊢;omega
  have h1:=this (l.take i);have h2:qF (l.map Pa.st)=qF ((l.take i).map Pa.st)+qF ((l.drop i).map Pa.st):=by rw[←zj,←qqe,qqE]
  omega
 refine qB.weakA ?_;simp only[V.weakL,V.weak,wSm];refine qB.ib func163 ok163 ?_;simp[c163];refine qE (WwF w 1 F D S P 3 ((qk l).map .str)) ?_ ?_
 ·refine qq (LwF w 1 F D S l.length (fun _=>P) (fun i=>(qk (l.take i)).map .str)
   (fun i gv=>[(4,.int .i64 i),(3,gv),(0,.sl false (l.map Sm.v))])) l.length _ ?_ ⟨0,_,F,D,by simp,by omega,by simp[qk];exact Gw.nil _ _ _ _ _ _,hk,Stp.refl _ _ _ _,rfl⟩ ?_
  ·exact Env.so (by simp)
  rintro j e U ⟨i,gv,F1,D1,rfl,hi,hg,hk1,hs1,rfl⟩;dsimp only at hg hk1;by_cases hlt:i<l.length
  ·obtain ⟨v',U3,ha,hg3,hk3,hs4,_⟩:=hg.appF fm (bytes:=16) (x:=.sl false (l[i].labels.map .str)) hk1 hs1 (yf _ _ _) (Q2 _) (by
    have:=hlab i (by omega);have h2:=zb (l:=l.map Pa.st) (i:=i) (q:=Pa.st l[i]) (by simp[hlt]);have h3:=Sm.size_parts l[i];rw[qp2,qp2];omega)
   have hn:(qk (l.take i)).map V.str++l[i].labels.map .str=(qk (l.take (i+1))).map .str:=by
    rw[qp9,qpZ hlt,qqx,←qqe];unfold qk;rw[List.flatMap_append];simp
   rw[hn] at hg3;simp[hlt,qhg,ldS,ha,qO (n:=(i:Int)+1)];refine ⟨_,?_,_,?_,i+1,v',F1,D1,rfl,by omega,hg3,hk3,hs4,rfl⟩
   ·omega
   ·exact Env.so (by simp)
  ·have:i=l.length:=by omega
   subst this;simp only[qqo] at hg hk1;simp;exact ⟨gv,F1,D1,rfl,hg,hk1,hs1⟩
 rintro e U ⟨gv,F1,D1,g5,hg,hk1,hs1⟩;simp[g5];exact Yh fm rfl hg hk1 hs1 (by rw[←qM,kx])
end Go.Proofs.YtbifpocccfkhhaaGreatDoor

namespace Go.Proofs.YtbifpocccfkhhaaGreatDoor
open Go
theorem Gr.rd{n0:Nat}{ys:List Bz}{v:V}{S:St}(h:Gr 1 n0 (ys.map .str) v S):Rd v ys S:=by
 rcases h with ⟨h1,rfl⟩|⟨l,wr,h1,rfl,h3,h4⟩
 ·have:ys=[]:=by simpa using h1
  subst this;exact Rd.sl true [] S
 ·rw[qp2] at h4 ⊢;exact Rd.arr h3 h4
theorem Gr.ne{sz n0:Nat}{xs:List V}{v:V}{S:St}(h:Gr sz n0 xs v S){l:Nat}(hl:l<n0)(n:Nat):v≠.arr l 0 n n:=by
 rcases h with ⟨_,rfl⟩|⟨l',wr,h1,rfl,_⟩
 ·simp
 ·intro hh;injection hh with hh;omega
open Go.Proofs.Tryz
theorem qk5(x:Bz){p3 p5 p7 t3 t5 m:Nat}{tks fks:List Bz}{b1 b2:List Nat}{c1 c2:Nat}{c:Bz→Int}{S:St}(h3:S[p3]?=some (.arr [.map t3] 1 1))(h3':S[t3]?=some (.map (tks.map kv) b1 c1))(h5:S[p5]?=some (.arr [.map t5] 1 1))(h5':S[t5]?=some (.map (fks.map kv) b2 c2))(h7:S[p7]?=some (.arr [.map m] 1 1))(hc:Cm c m S):
  Fn prog 146 [.str x,.ptr p3 0 0 1,.ptr p5 0 0 1,.ptr p7 0 0 1] S (.bool (ZG x tks || ZG x fks || decide (0<c x))):=by
 refine qB.ib func146 ok146 ?_;have l1:=qgs x h3';have l2:=qgs x h5';have l3:=hc.get x
 cases h1:ZG x tks with
 | true=>
  rw[h1] at l1;simp[c146,ldS,h3,evX,l1,V.part,V.cells];exact qi rfl ⟨rfl,rfl⟩
 | false=>
  rw[h1] at l1
  cases h2:ZG x fks with
  | true=>
   rw[h2] at l2;simp[c146,ldS,h3,h5,evX,l1,l2,V.part,V.cells];exact qi rfl ⟨rfl,rfl⟩
  | false=>
   rw[h2] at l2;simp[c146,ldS,h3,h5,h7,evX,l1,l2,l3,V.part,V.cells];exact qi rfl ⟨by simp[qo],rfl⟩
theorem Rd.flat{v:V}{l:List Bz}{S:St}(h:Rd v l S):v.cells=[v]∧v.flat=true∧v.size=1:=by
 have:=h.1;cases v <;> simp[lenS] at this <;> exact ⟨rfl,rfl,rfl⟩
theorem qlQ(p c k:Nat)(x y:Bz)(tv:V)(l:List Bz)(U:St)(hp:U[p]?=some (plc x k y))(hc:U[c]?=some (.arr [tv] 1 1))(hr:Rd tv l U)(hk:k<l.length):
  qB prog 147 [.ptr p 0 0 1,.ptr c 0 0 1] U (fun _ U'=>U'=U.set p (plc x k (lf l k))):=by
 refine qB.ib func147 ok147 ?_;have hlf:lf l k=l[k]:=by unfold lf;rw[qpZ hk];rfl
 have hfl:=hr.flat;obtain ⟨q,q1,q2⟩:=hr.2 k hk;rw[hlf];unfold plc at hp ⊢;have e1:ldS U (.ptr p 0 0 1) none=some (.int .i64 k):=by simp[ldS,hp]
 have e2:ldS U (.ptr c 0 0 1) none=some tv:=by simp[ldS,hc,hfl]
 have e3:stS U (.ptr p 0 2 1) 1 (.str l[k])=some (U.set p (.arr [.agg [.int .i64 k,.str x,.str l[k]]] 3 1)):=by simp[stS,hp,qc]
 simp[c147,e1,e2,zk,q1,q2,e3];refine yq rfl rfl ?_;exact qI rfl rfl
structure Ap(l:List Bz)(c:Nat)(tv:V)(F D:Np)(U:St):Prop where
 f:∀x,¬ F x
 d:∀x,D x↔x=c∨∃n,tv=.arr x 0 n n
 c:U[c]?=some (.arr [tv] 1 1)
 t:(l=[]∧tv=.sl true [])∨∃a wr,tv=.arr a 0 l.length l.length∧U[a]?=some (.arr (l.map .str) 1 wr)∧wr≤l.length
section
variable {l:List Bz} {c:Nat} {tv:V} {F D:Np} {U:St}
theorem Ap.rd(k:Ap l c tv F D U):Rd tv l U:=by
 rcases k.t with ⟨rfl,rfl⟩|⟨a,wr,rfl,h1,h2⟩
 ·exact Rd.sl true [] U
 ·exact Rd.arr h1 h2
theorem Ap.gD(k:Ap l c tv F D U){x:Nat}(h:D x):∃o,U[x]?=some o∧(∀i,o≠.loop i)∧∀y k z,o≠plc y k z:=by
 rcases (k.d x).1 h with rfl|⟨n,hn⟩
 ·refine ⟨_,k.c,by simp,fun y i z hh=>?_⟩;unfold plc at hh;simp at hh
 ·rcases k.t with ⟨_,rfl⟩|⟨a,wr,rfl,h1,h2⟩
  ·cases hn
  ·cases hn;refine ⟨_,h1,by simp,fun y i z hh=>?_⟩;unfold plc at hh;simp at hh
theorem Ap.fr{U':St}{M:Np}(k:Ap l c tv F D U)(hk:Kp M U U')(hM:∀l,M l→l<U.length→¬ F l∧¬ D l):Ap l c tv F D U':=by
 have g:∀{x o},U[x]?=some o→D x→U'[x]?=some o:=fun ho hd=>hk.at ho fun hm=>(hM _ hm (glt ho)).2 hd
 refine ⟨k.f,k.d,g k.c ((k.d _).2 (.inl rfl)),k.t.imp id fun ⟨a,wr,h1,h2,h3⟩=>⟨a,wr,h1,g h2 ((k.d _).2 (.inr ⟨_,h1⟩)),h3⟩⟩
end
def apC(l:List Bz)(c:Nat):Cb where
 toPw:=nuP (lf l)
 fe:=.fn (.func 147) [] [.ptr c 0 0 1]
 fn:=.nilfn
 fc:=.nilfn
 I _ F D U:=∃tv,Ap l c tv F D U
 cn _ _:=True
 lim:=l.length
theorem qnA(l:List Bz)(c:Nat)(hl:l.length≤100001):(apC l c).Ok where
 lim:=hl
 lt:=fun ⟨tv,k⟩ x hx=>by
  rcases hx with hx|hx
  ·exact absurd hx (k.f x)
  ·obtain ⟨o,ho,_⟩:=k.gD hx;exact glt ho
 fr:=fun ⟨tv,k⟩ hk hM=>⟨tv,k.fr hk hM⟩
 lp:=fun ⟨tv,k⟩ x o ho=>⟨k.f x,fun hd=>by
  obtain ⟨o',ho',h1,_⟩:=k.gD hd;rw[ho] at ho';cases ho';exact h1 _ rfl⟩
 ce _ _:=trivial
 cm _ _ _ _:=trivial
 cc _ _ _:=trivial
 real:=fun {h F D S} ⟨tv,k⟩ h'=>⟨F,D,S,⟨tv,k⟩,Kp.refl _ _,grow.refl _ _,grow.refl _ _⟩
 en:=.inr ⟨147,[.ptr c 0 0 1],rfl,fun U p k x h F D hp hF hD hk _ ⟨tv,hI⟩=>by
  refine qB.mono (qlQ p c k x x tv l U hp hI.c hI.rd hk) fun v U' hU=>?_
  subst hU;exact ⟨F,D,⟨tv,hI.fr (M:=fun y=>y=p) ((Kp.refl _ _).set _ (.inl rfl)) fun y hy _=>by rw[hy];exact ⟨hF,hD⟩⟩,qpW (glt hp),(Kp.refl _ _).set _ (.inl (.inl rfl)),grow.refl _ _,fun _ h=>.inl h⟩⟩
 nm:=rfl
 cl:=rfl
structure Az(h:List Bz×List Bz)(m c4 c5 c6:Nat)(v:V)(ps:List Nat)(F D:Np)(q5 q7 mm:Nat)(c:Bz→Int)(U:St):Prop where
 co:Co m c4 c5 c6 h v ps F D U
 x5:U[q5]?=some (.arr [.map m] 1 1)
 x7:U[q7]?=some (.arr [.map mm] 1 1)
 xm:Cm c mm U
 o5:¬ F q5∧¬ D q5
 o7:¬ F q7∧¬ D q7
 om:¬ F mm∧¬ D mm
section
variable {h:List Bz×List Bz} {m c4 c5 c6:Nat} {v:V} {ps:List Nat} {F D:Np} {q5 q7 mm:Nat} {c:Bz→Int} {U:St}
theorem Az.mo(k:Az h m c4 c5 c6 v ps F D q5 q7 mm c U):∃ms bs ck,U[mm]?=some (.map (List.map ki ms) bs ck):=by
 obtain ⟨ms,bs,ck,h,_⟩:=k.xm;exact ⟨ms,bs,ck,h⟩
theorem Az.fr{U':St}{M:Np}(k:Az h m c4 c5 c6 v ps F D q5 q7 mm c U)(hk:Kp M U U')(hM:∀l,M l→l<U.length→¬ F l∧¬ D l∧l≠q5∧l≠q7∧l≠mm):Az h m c4 c5 c6 v ps F D q5 q7 mm c U':=
 ⟨k.co.fr hk fun l hl hh=>⟨(hM l hl hh).1,(hM l hl hh).2.1⟩,hk.at k.x5 fun hh=>(hM _ hh (glt k.x5)).2.2.1 rfl,hk.at k.x7 fun hh=>(hM _ hh (glt k.x7)).2.2.2.1 rfl,k.xm.keep fun o ho=>hk.at ho fun hh=>(hM _ hh (glt ho)).2.2.2.2 rfl,k.o5,k.o7,k.om⟩
theorem Az.put(k:Az h m c4 c5 c6 v ps F D q5 q7 mm c U)(s:Bz)(n:Int):∃o,qbz U .str (.map mm) (.str s) (.int .i64 n)=some (U.set mm o)∧Az h m c4 c5 c6 v ps F D q5 q7 mm (fun x=>if x=s then n else c x) (U.set mm o):=by
 obtain ⟨es,bs,ck,h1,h2⟩:=k.xm.put s n;obtain ⟨ms,b0,k0,h3⟩:=k.mo;refine ⟨_,h1,k.co.set _ k.om.1 k.om.2,?_,?_,h2 _ (qpW (glt h3)),k.o5,k.o7,k.om⟩
 ·rw[qpX (qd6 h3 k.x5 (by simp))];exact k.x5
 ·rw[qpX (qd6 h3 k.x7 (by simp))];exact k.x7
end
mutual
theorem Sm.bn_nm{nm:Bz→Bool}:∀(s:Sm),(Pa.st s).valid nm=true→∀x,x∈s.bn→nm x=true
 | .mk l k t g e f d b,v,x,hx=>by
  have vd:=Sm.valid_decls v;have vb:=Sm.valid_body v;simp only[Sm.decls,Sm.body] at vd vb
  have lab:x∈qk b→nm x=true:=fun hx=>by
   obtain ⟨y,hy,hx⟩:=List.mem_flatMap.1 hx;exact Sm.valid_labels (vb y hy) x hx
  rw[Sm.bn] at hx;split at hx
  ·rcases qqc.1 hx with hx|hx
   ·rcases qqc.1 hx with hx|hx
    ·rcases qqc.1 (jm hx) with hx|hx
     ·obtain ⟨y,hy,hx⟩:=List.mem_flatMap.1 hx;exact De.valid_names (vd y hy) x hx
     ·exact lab hx
    ·exact De.bnl_nm d vd x hx
   ·exact Sm.bnl_nm b vb x hx
  ·split at hx
   ·rcases qqc.1 hx with hx|hx
    ·exact lab (jm hx)
    ·exact Sm.bnl_nm b vb x hx
   ·exact Sm.bn1_nm b vb x hx
theorem De.bn_nm{nm:Bz→Bool}:∀(s:De),(Pa.de s).valid nm=true→∀x,x∈s.bn→nm x=true
 | .mk k o t ns e fo b,v,x,hx=>by
  have vb:=De.valid_body v;have vf:=De.valid_formals v;simp only[De.body,De.formals] at vb vf;rw[De.bn] at hx;split at hx
  ·rcases qqc.1 hx with hx|hx
   ·obtain ⟨y,hy,rfl⟩:=qql.1 (jm hx);exact vf y hy
   ·exact Sm.bn1_nm b vb x hx
  ·simp at hx
theorem De.bnl_nm{nm:Bz→Bool}:∀(l:List De),(∀y,y∈l→(Pa.de y).valid nm=true)→∀x,x∈De.bnl l→nm x=true
 | [],_,x,hx=>by simp[De.bnl] at hx
 | y::l,v,x,hx=>by
  rw[De.bnl] at hx;rcases qqc.1 hx with hx|hx
  ·exact De.bn_nm y (v y (by simp)) x hx
  ·exact De.bnl_nm l (fun z hz=>v z (by simp[hz])) x hx
theorem Sm.bnl_nm{nm:Bz→Bool}:∀(l:List Sm),(∀y,y∈l→(Pa.st y).valid nm=true)→∀x,x∈Sm.bnl l→nm x=true
 | [],_,x,hx=>by simp[Sm.bnl] at hx
 | y::l,v,x,hx=>by
  rw[Sm.bnl] at hx;rcases qqc.1 hx with hx|hx
  ·exact Sm.bn_nm y (v y (by simp)) x hx
  ·exact Sm.bnl_nm l (fun z hz=>v z (by simp[hz])) x hx
theorem Sm.bn1_nm{nm:Bz→Bool}:∀(l:List Sm),(∀y,y∈l→(Pa.st y).valid nm=true)→∀x,x∈Sm.bn1 l→nm x=true
 | [],_,x,hx=>by simp[Sm.bn1] at hx
 | y::l,v,x,hx=>by
  rw[Sm.bn1] at hx;rcases qqc.1 hx with hx|hx
  ·rcases qqc.1 hx with hx|hx
   ·exact Sm.valid_labels (v y (by simp)) x (jm hx)
   ·exact Sm.bn_nm y (v y (by simp)) x hx
  ·exact Sm.bn1_nm l (fun z hz=>v z (by simp[hz])) x hx
end
theorem Sm.bounds_nm{nm:Bz→Bool}(s:Sm)(v:(Pa.st s).valid nm=true):∀x,x∈s.bounds→nm x=true:=fun x hx=>(qqc.1 hx).elim (fun h=>Sm.valid_labels v x (jm h)) (Sm.bn_nm s v x)
theorem qiJ(s:Sm)(b:Bz):ZG b ((yR (s.wholeH coP coZ)).foldl Yv [])=ZG b s.frees:=by
 rw[qqy,zq,zq];unfold Sm.frees;rw[qbe]
theorem qgh(l:List Bz)(y x:Bz):Qb (l++[y]) x=if x=y then Qb l y+1 else Qb l x:=by
 rw[Z5];simp only[Qb];split
 ·rename_i h;rw[h];omega
 ·omega
theorem qgC(a b:List Bz)(y t x:Bz):Qb (a++t::b) x=if x=t then (if t=y then Qb (a++y::b) y - 1 else Qb (a++y::b) t)+1 else if x=y then Qb (a++y::b) y - 1 else Qb (a++y::b) x:=by
 simp only[Z5,Qb];by_cases h1:x=t
 ·subst h1;by_cases h2:x=y
  ·subst h2;simp
  ·simp[h2];omega
 ·by_cases h2:x=y
  ·subst h2;simp[h1];omega
  ·simp[h1,h2]
theorem Sm.frees_len0'(s:Sm):s.frees.length≤(Pa.st s).size:=by
 unfold Sm.frees;rw[qar];have h1:=Js (l:=yR (s.wholeH coP coZ)) (ks:=[]);have h2:=s.frees_len;simp only[qq3] at h1;omega
theorem qoy{v y:V}(hv:v.size=1)(hy:y.cells=[y]∧y.flat=true∧y.size=1):V.upd v 0 1 y=some y:=by
 unfold V.upd;rw[if_pos ⟨hy.2.2,by rw[hy.1];simp[hy.2.1]⟩,if_pos ⟨rfl,hv.symm⟩]
theorem qn4(s:Sm)(hs:s.ok)(va:(Pa.st s).valid qb=true)(hsz:(Pa.st s).size<150)(hn:Sm.nb1 [s]<150)(tks:List Bz)(htk:tks.length≤500)(tk:Nat)(b1:List Nat)(k1:Nat)(S:St)(htS:S[tk]?=some (.map (tks.map kv) b1 k1)):
    qB prog 95 [s.v,.map tk] S (fun r U=>r=(s.whole (lf (apL tks s.frees [] s.bounds))).v∧Kp (fun _=>False) S U):=by
  refine qB.ib func95 ok95 ?_;obtain ⟨S1,hS1⟩:∃S1:St,S1=S++[.arr [s.v] 8 1,.arr [.map tk] 1 1,.arr [smZ] 8 1]:=⟨_,rfl⟩;have p0:S1[S.length]?=some (.arr [s.v] 8 1):=by rw[hS1];simp
  have p1:S1[S.length+1]?=some (.arr [.map tk] 1 1):=by rw[hS1,qpV (by omega)];simp
  have p2:S1[S.length+2]?=some (.arr [smZ] 8 1):=by rw[hS1,qpV (by omega)];simp
  have l1:S1.length=S.length+3:=by rw[hS1];simp
  have kS:Kp (fun _=>False) S S1:=by rw[hS1];exact (Kp.refl _ _).push _
  have pt:S1[tk]?=some (.map (tks.map kv) b1 k1):=kS.at htS id;have d0:ldS S1 (.ptr S.length 0 0 1) (some 8)=some s.v:=by simp[ldS,p0]
  have hN:=s.bounds_len;simp[c95,qw];rw[←hS1];simp[d0];refine qm (qmE s hs (by omega) (by omega) S1) ?_;rintro r U ⟨m,c4,c5,c6,v,ps,F,D,rfl,co,kU,far⟩;have hb2:(s.wholeH coP ([],[]):List Bz×List Bz).2=s.bounds:=s.whole_bounds;have hlv:=co.lenS;rw[hb2] at hlv;have hvc:v.cells=[v]∧v.flat=true∧v.size=1:=by rcases co.gr with ⟨_,rfl⟩|⟨a,wr,rfl,_⟩ <;> exact ⟨rfl,rfl,rfl⟩
  have lU:=kU.len;obtain ⟨h,hh⟩:∃h:List Bz×List Bz,h=(s.wholeH coP ([],[]):List Bz×List Bz):=⟨_,rfl⟩;obtain ⟨U2,hU2⟩:∃U2:St,U2=U++[.arr [.map m] 1 1,.map [] [] 0,.arr [.map (U.length+1)] 1 1]:=⟨_,rfl⟩;have out:∀l,U.length≤l→¬ F l∧¬ D l:=fun l hl=>⟨fun hf=>by have:=co.lt (.inl hf);omega,fun hf=>by have:=co.lt (.inr hf);omega⟩
  have az:Az h m c4 c5 c6 v ps F D U.length (U.length+2) (U.length+1) (fun _=>0) U2:=by
    rw[hU2,hh];refine ⟨co.push _,by simp,by rw[qpV (by omega)];simp,⟨[],[],0,by rw[qpV (by omega)];simp,fun _=>rfl⟩,out _ (by omega),out _ (by omega),out _ (by omega)⟩
  have kU2:Kp (fun _=>False) S1 U2:=by rw[hU2];exact kU.push _
  have hbl:s.bounds.length<150:=by omega
  simp[qw,evX,stS,jv,↓yz,hlv];rw[←hU2];refine qE (fun e X=>Az h m c4 c5 c6 v ps F D U.length (U.length+2) (U.length+1) (Qb s.bounds) X∧Kp (fun _=>False) S1 X∧U2.length≤X.length∧e.get 2=some (.ptr S.length 0 0 1)∧e.get 3=some (.ptr (S.length+1) 0 0 1)∧e.get 4=some (.ptr (S.length+2) 0 0 1)∧e.get 5=some (.ptr U.length 0 0 1)∧e.get 6=some v∧e.get 7=some (.ptr (U.length+2) 0 0 1)) ?_ ?_
  · refine qq (fun j e X=>∃i:Nat,j=s.bounds.length - i∧i≤s.bounds.length∧Az h m c4 c5 c6 v ps F D U.length (U.length+2) (U.length+1) (Qb (s.bounds.take i)) X∧Kp (fun _=>False) S1 X∧U2.length≤X.length∧
      e=[(23,.int .i64 i),(22,.int .i64 s.bounds.length),(21,v),(7,.ptr (U.length+2) 0 0 1),(6,v),(5,.ptr U.length 0 0 1),(4,.ptr (S.length+2) 0 0 1),(3,.ptr (S.length+1) 0 0 1),(2,.ptr S.length 0 0 1)]) s.bounds.length _ ?_ ⟨0,by simp,by omega,az,kU2,qp0 _,rfl⟩ ?_
    · exact Env.so (by simp)
    rintro j e X ⟨i,rfl,hi,az,kX,lX,rfl⟩;by_cases hlt:i<s.bounds.length
    · have hlt':i<h.2.length:=by rw[hh,hb2];exact hlt
      obtain ⟨p,l,st,h1,h2,h3⟩:=az.co.at hlt';have hx:h.2[i]=s.bounds[i]:=by simp only[hh,hb2]
      rw[hx] at h3;obtain ⟨x,hxx⟩:∃x,x=s.bounds[i]:=⟨_,rfl⟩;rw[←hxx] at h3;unfold plc at h3;have h4:ldS X (.ptr p 0 1 1) none=some (.str x):=by simp only[ldS,h3];rfl
      have h7:ldS X (.ptr (U.length+2) 0 0 1) none=some (.map (U.length+1)):=by simp[ldS,az.x7,V.part,V.cells]
      have hg:=az.xm.get x;have hle:=JI x (s.bounds.take i);have htl:(s.bounds.take i).length≤150:=by rw[qqR];omega
      obtain ⟨o,hp,az2⟩:=az.put x (Qb (s.bounds.take i) x+1)
      have hc:(fun y=>if y=x then Qb (s.bounds.take i) x+1 else Qb (s.bounds.take i) y)=Qb (s.bounds.take (i+1)):=by
        funext y;rw[qp9,qpZ hlt,qqx,←hxx,qgh]
      rw[hc] at az2;have i1:=qy (n:=Qb (s.bounds.take i) x+1) (by omega) (by omega);simp[hlt,h1,h2,zk,h7,h4,evX,hg,i1,hp];refine yq rfl rfl ?_;simp[qO (n:=(i:Int)+1)];refine ⟨_,?_,_,?_,i+1,rfl,by omega,az2,kX.set _ (.inr (by omega)),by simpa using lX,rfl⟩
      · omega
      · exact Env.so (by simp)
    · have:i=s.bounds.length:=by omega
      subst this;rw[qqo] at az;simp;exact ⟨az,kX,lX⟩
  clear az kU2;rintro e X ⟨az,kX,lX,g2,g3,g4,g5,g6,g7⟩;simp[g2,g3,g4,g5,g6,g7,qw,stS,↓yz,hlv];obtain ⟨Q,hQ⟩:∃Q,Q=X.length:=⟨_,rfl⟩;rw[←hQ];obtain ⟨dn,hdn⟩:∃dn:Nat→List Bz,dn=fun i=>apD tks s.frees [] s.bounds i:=⟨_,rfl⟩
  have dn0:dn 0=[]:=by rw[hdn];simp[apD]
  have dnl:∀i,i≤s.bounds.length→(dn i).length=i:=fun i hi=>by rw[hdn];simpa using YW tks s.frees s.bounds [] i hi
  have dns:∀i (hi:i<s.bounds.length),dn (i+1)=dn i++[apN tks s.frees (dn i) s.bounds[i] (s.bounds.drop (i+1))]:=fun i hi=>by rw[hdn];exact qai tks s.frees s.bounds [] i hi
  have hU2l:U2.length=U.length+3:=by rw[hU2];simp
  have lo:∀l,Q≤l→¬ F l∧¬ D l∧l≠U.length∧l≠U.length+2∧l≠U.length+1:=fun l hl=>⟨fun hf=>by have:=az.co.lt (.inl hf);omega,fun hf=>by have:=az.co.lt (.inr hf);omega,by omega,by omega,by omega⟩
  obtain ⟨Inv,hInv⟩:∃Inv:Nat→V→St→Prop,∀i tv Y,Inv i tv Y↔(Az h m c4 c5 c6 v ps F D U.length (U.length+2) (U.length+1) (Qb (dn i++s.bounds.drop i)) Y∧Kp (fun _=>False) S1 Y∧Y[Q]?=some (.arr [tv] 1 1)∧Gr 1 (Q+1) ((dn i).map .str) tv Y):=⟨_,fun _ _ _=>Iff.rfl⟩;have step:∀(i:Nat) (hi:i<s.bounds.length) (Y:St) (tv:V),Az h m c4 c5 c6 v ps F D U.length (U.length+2) (U.length+1) (Qb (dn (i+1)++s.bounds.drop (i+1))) Y→Kp (fun _=>False) S1 Y→Y[Q]?=some (.arr [tv] 1 1)→Gr 1 (Q+1) ((dn i).map .str) tv Y→
      ∃tv' Z,QP Y 1 16 tv (.sl true [.str (apN tks s.frees (dn i) s.bounds[i] (s.bounds.drop (i+1)))])=some (tv',Z)∧Z[Q]?=some (.arr [tv] 1 1)∧tv'.cells=[tv']∧tv'.flat=true∧tv'.size=1∧Inv (i+1) tv' (Z.set Q (.arr [tv'] 1 1)):=fun i hi Y tv az kY hq hg=>by
    have lY:=glt hq;obtain ⟨tv',Z,h1,h2,h3,h4⟩:=hg.app1 (bytes:=16) (y:=.str (apN tks s.frees (dn i) s.bounds[i] (s.bounds.drop (i+1)))) (b:=true) rfl (by rw[qp2,dnl i (by omega)];omega) (by omega);have h5:(dn i).map V.str++[.str (apN tks s.frees (dn i) s.bounds[i] (s.bounds.drop (i+1)))]=(dn (i+1)).map .str:=by rw[dns i hi,qqe];rfl
    rw[h5] at h2;have hf:=h2.rd.flat;have kZ:Kp (fun l=>Q≤l) Y Z:=⟨h3,fun l hl hn=>h4 l (by omega)⟩;refine ⟨tv',Z,h1,?_,hf.1,hf.2.1,hf.2.2,(hInv _ _ _).2 ⟨?_,?_,?_,?_⟩⟩
    · rw[h4 Q (by omega)];exact hq
    · exact az.fr (M:=fun l=>Q≤l) (kZ.set _ (.inl (qp0 _))) fun l hl _=>lo l hl
    · have h6:Kp (fun _=>False) S1 Z:=⟨by have:=kY.len;omega,fun l hl hn=>by rw[h4 l (by have:=kX.len;omega)];exact kY.get l hl hn⟩;exact h6.set _ (.inr (by have:=kX.len;omega))
    · exact qpW (by omega)
    · refine h2.keep fun l hl _=>?_
      rw[qpX (by omega)]
  refine qE (fun e Y=>∃tv,Inv s.bounds.length tv Y∧e.get 2=some (.ptr S.length 0 0 1)∧e.get 4=some (.ptr (S.length+2) 0 0 1)∧e.get 10=some (.ptr Q 0 0 1)) ?_ ?_
  · refine qq (fun j e Y=>∃(i:Nat) (tv:V),j=s.bounds.length - i∧i≤s.bounds.length∧Inv i tv Y∧
      e=[(37,.int .i64 i),(36,.int .i64 s.bounds.length),(35,v),(10,.ptr Q 0 0 1),(7,.ptr (U.length+2) 0 0 1),(5,.ptr U.length 0 0 1),(4,.ptr (S.length+2) 0 0 1),(3,.ptr (S.length+1) 0 0 1),(2,.ptr S.length 0 0 1)]) s.bounds.length _ ?_ ⟨0,.sl true [],by simp,by omega,(hInv _ _ _).2 ⟨?_,?_,?_,?_⟩,rfl⟩ ?_
    · repeat' first|exact Env.sub_nil _|refine Env.sub_cons (by simp[g2,g3,g4,g5,g6,g7]) ?_
    · rw[dn0,qrO,qqn];exact az.fr (M:=fun _=>False) ((Kp.refl _ _).push _) fun _ h=>h.elim
    · exact kX.push _
    · rw[hQ];simp
    · rw[dn0];exact Gr.nil _ _ _
    rintro j e Y ⟨i,tv,rfl,hi,hI,rfl⟩;obtain ⟨az,kY,hq,hg⟩:=(hInv _ _ _).1 hI;by_cases hlt:i<s.bounds.length
    · have hlt':i<h.2.length:=by rw[hh,hb2];exact hlt
      obtain ⟨p,l,st,h1,h2,h3⟩:=az.co.at hlt';have hx:h.2[i]=s.bounds[i]:=by simp only[hh,hb2]
      rw[hx] at h3;have hap:apN tks s.frees (dn i) s.bounds[i] (s.bounds.drop (i+1))=if ZG s.bounds[i] tks=true then frs s.bounds[i] (s.frees++(dn i++s.bounds[i]::s.bounds.drop (i+1))++tks) else s.bounds[i]:=rfl
      have hst:=step i hlt;have hdl:=dnl i hi;have hds:=dns i hlt;have hdr:s.bounds.drop i=s.bounds[i]::s.bounds.drop (i+1):=qqZ hlt;have hxs:s.bounds[i].size≤16:=ZM (s.bounds_nm va _ (qp5 hlt));rw[hdr] at az;obtain ⟨rest,hrest⟩:∃rest,rest=s.bounds.drop (i+1):=⟨_,rfl⟩;have hrl:rest.length=s.bounds.length - (i+1):=by rw[hrest,List.length_drop]
      obtain ⟨x,hxx⟩:∃x,x=s.bounds[i]:=⟨_,rfl⟩;rw[←hxx,←hrest] at hap hst hds az;rw[←hxx] at h3 hxs;unfold plc at h3;have h4:ldS Y (.ptr p 0 1 1) none=some (.str x):=by simp only[ldS,h3];rfl
      have e1:=kY.at p1 id;have q3:ldS Y (.ptr (S.length+1) 0 0 1) none=some (.map tk):=by simp[ldS,e1,V.part,V.cells]
      have tkY:=kY.at pt id;have hlk:=qgs x tkY;have htf:=hg.rd.flat;have lq:∀{Z:St},Z[Q]?=some (.arr [tv] 1 1)→ldS Z (.ptr Q 0 0 1) none=some tv:=fun hZ=>by simp[ldS,hZ,htf]
      cases hin:ZG x tks with
      | false=>
        rw[hin] at hap hlk;rw[if_neg (by simp)] at hap;rw[hap] at hst hds;obtain ⟨tv',Z,a1,a2,a3,a4,a5,a6⟩:=hst Y tv (by rw[hds,qp4];exact az) kY hq hg;have sq:stS Z (.ptr Q 0 0 1) 1 tv'=some (Z.set Q (.arr [tv'] 1 1)):=by simp[stS,a2,qoy htf.2.2 ⟨a3,a4,a5⟩]
        have hft:fits 1 [V.str x]=true:=rfl;simp[hlt,h1,h2,zk,h4,q3,evX,hlk,lq hq,hft,a1,sq,qO (n:=(i:Int)+1)];refine ⟨_,?_,_,?_,i+1,rfl,by omega,⟨tv',a6⟩,rfl⟩
        · omega
        · exact Env.so (by simp)
      | true=>
        rw[hin] at hap hlk;rw[if_pos rfl] at hap;obtain ⟨bs,ck,_,hm⟩:=az.co.fm;obtain ⟨cur,hcur⟩:∃cur,cur=dn i++x::rest:=⟨_,rfl⟩;rw[←hcur] at az hap;have hcl:cur.length<150:=by rw[hcur,qp8,qqs];omega
        have hfk:h.1=yR (s.wholeH coP coZ):=by rw[hh];rfl
        have hfl:=s.frees_len0';obtain ⟨all,hall⟩:∃all,all=s.frees++cur++tks:=⟨_,rfl⟩;rw[←hall] at hap;simp[hlt,h1,h2,zk,h4,q3,evX,hlk];refine qm (qlE x 146 [.ptr (S.length+1) 0 0 1,.ptr U.length 0 0 1,.ptr (U.length+2) 0 0 1] (fun y=>ZG y tks || ZG y (h.1.foldl Yv []) || decide (0<Qb cur y)) all Y (fun y=>qk5 y e1 tkY az.x5 hm az.x7 az.xm) (fun y=>?_) hxs ?_) ?_
        · rw[hfk,qiJ,hall];simp only[qrG,zq,decide_eq_true_eq,qdh,qqc];constructor
          · rintro ((hh|hh)|hh) <;> simp[hh]
          · rintro ((hh|hh)|hh) <;> simp[hh]
        · rw[hall];simp;omega
        rintro r Y' ⟨⟨t,rfl,hfr⟩,rfl⟩;rw[qhh hfr] at hap;rw[hap] at hst hds;have lm:∀{Z:St} {c:Bz→Int},Az h m c4 c5 c6 v ps F D U.length (U.length+2) (U.length+1) c Z→ldS Z (.ptr (U.length+2) 0 0 1) none=some (.map (U.length+1)):=fun k=>by simp[ldS,k.x7,V.part,V.cells]
        have lm0:=lm az;have hg0:=az.xm.get x;have hc0:=JI x cur;obtain ⟨o1,w1,az1⟩:=az.put x (Qb cur x - 1);have lm1:=lm az1;have hg1:=az1.xm.get t;have hc1:=JI t cur;have hc2:-1≤(if t=x then Qb cur x - 1 else Qb cur t)∧(if t=x then Qb cur x - 1 else Qb cur t)≤1000:=by split <;> omega
        obtain ⟨o2,w2,az2⟩:=az1.put t ((if t=x then Qb cur x - 1 else Qb cur t)+1)
        have hcs:(fun y=>if y=t then (if t=x then Qb cur x - 1 else Qb cur t)+1 else if y=x then Qb cur x - 1 else Qb cur y)=Qb (dn i++t::rest):=by
          funext y;rw[hcur,qgC (dn i) rest x t y]
        rw[hcs] at az2;obtain ⟨Y1,hY1⟩:∃Y1,Y1=Y'.set (U.length+1) o1:=⟨_,rfl⟩;rw[←hY1] at lm1 hg1 w2 az1 az2 w1;obtain ⟨Y2,hY2⟩:∃Y2,Y2=Y1.set (U.length+1) o2:=⟨_,rfl⟩;rw[←hY2] at az2 w2;have kk:∀l,l≠U.length+1→Y2[l]?=Y'[l]?:=fun l hl=>by rw[hY2,qpX (Ne.symm hl),hY1,qpX (Ne.symm hl)]
        have ll:Y2.length=Y'.length:=by rw[hY2,List.length_set,hY1,List.length_set]
        have kY2:Kp (fun _=>False) S1 Y2:=⟨by rw[ll];exact kY.len,fun l hl hn=>by rw[kk l (by omega)];exact kY.get l hl hn⟩;have hq2:Y2[Q]?=some (.arr [tv] 1 1):=by rw[kk Q (by omega)];exact hq
        have hg2:Gr 1 (Q+1) ((dn i).map .str) tv Y2:=hg.keep fun l hl _=>kk l (by omega)
        obtain ⟨tv',Z,a1,a2,a3,a4,a5,a6⟩:=hst Y2 tv (by rw[hds,qp4];exact az2) kY2 hq2 hg2;have sq:stS Z (.ptr Q 0 0 1) 1 tv'=some (Z.set Q (.arr [tv'] 1 1)):=by simp[stS,a2,qoy htf.2.2 ⟨a3,a4,a5⟩]
        have hft:fits 1 [V.str t]=true:=rfl;have i1:=qy (n:=Qb cur x - 1) (by omega) (by omega);have i2:=qy (n:=(if t=x then Qb cur x - 1 else Qb cur t)+1) (by omega) (by omega);simp[zk,lm0,h4,evX,hg0,i1,w1];refine yq rfl rfl ?_;simp[lm1,evX,hg1,i2,w2,lq hq2,hft,a1,sq,qO (n:=(i:Int)+1)];refine ⟨_,?_,_,?_,i+1,rfl,by omega,⟨tv',a6⟩,rfl⟩
        · omega
        · exact Env.so (by simp)
    · have:i=s.bounds.length:=by omega
      subst this;simp;exact ⟨tv,hI⟩
  rintro e Y ⟨tv,hI,g2,g4,g10⟩;obtain ⟨az,kY,hq,hg⟩:=(hInv _ _ _).1 hI;have hfin:dn s.bounds.length=apL tks s.frees [] s.bounds:=by rw[hdn];exact kQ tks s.frees s.bounds []
  rw[hfin] at hg;obtain ⟨L,hL⟩:∃L,L=apL tks s.frees [] s.bounds:=⟨_,rfl⟩;have hLl:L.length=s.bounds.length:=by rw[hL,YL];simp
  rw[←hL] at hg ⊢;have e0:=kY.at p0 id;have e2:=kY.at p2 id;have lX1:=kX.len;have lQ:=glt hq
  have far2:∀x n,tv=.arr x 0 n n→Q<x∧x<Y.length:=fun x n hx=>by
    rcases hg with ⟨_,rfl⟩|⟨l,wr,h1,rfl,h3,_⟩
    · cases hx
    · cases hx;exact ⟨by omega,glt h3⟩
  have ap:Ap L Q tv (fun _=>False) (fun x=>x=Q∨∃n,tv=.arr x 0 n n) Y:=⟨fun _=>id,fun _=>Iff.rfl,hq,by
    rcases hg with ⟨h1,h2⟩|⟨l,wr,h1,h2,h3,h4⟩
    · exact .inl ⟨by simpa using h1,h2⟩
    · rw[qp2] at h2 h4;exact .inr ⟨l,wr,h2,h3,h4⟩⟩
  obtain ⟨Y1,hY1⟩:∃Y1:St,Y1=Y++[.arr [.agg [.int .i64 0,.fn (.func 147) [] [.ptr Q 0 0 1],.nilfn,.nilfn]] 4 1]:=⟨_,rfl⟩;have w1:Y1[Y.length]?=some (.arr [.agg [.int .i64 0,.fn (.func 147) [] [.ptr Q 0 0 1],.nilfn,.nilfn]] 4 1):=by rw[hY1];simp
  have kY1:Kp (fun _=>False) Y Y1:=by rw[hY1];exact (Kp.refl _ _).push _
  have ld1:ldS Y1 (.ptr S.length 0 0 1) (some 8)=some s.v:=by
    have:=kY1.at e0 id;simp[ldS,this]
  have hw:Wk (apC L Q) Y.length 0 () (fun _=>False) (fun x=>x=Q∨∃n,tv=.arr x 0 n n) Y1:=⟨w1,⟨tv,ap.fr kY1 fun _ hf=>hf.elim⟩,id,by rintro (h|⟨n,h⟩);omega;have:=far2 _ _ h;omega,trivial⟩;simp[g2,g4,g10,qh,ql,qc,qa4,qw];rw[←hY1];simp[ld1];refine qm (qi9 (apC L Q) (qnA L Q (by omega)) Y.length s hs (by omega) () _ _ Y1 hw (by show Sm.nb1 [s]≤L.length;omega)) ?_;rintro r Z ⟨hr,F2,D2,kw,sw⟩;have hr':r=(s.whole (lf L)).v:=by rw[hr];exact congrArg Sm.v (Sm.wholeR_w rfl rfl (fun _ _=>rfl) s va)
  have kZ:Kp (fun _=>False) S1 Z:=⟨by have:=kY.len;have:=kY1.len;have:=sw.k.len;omega,fun l hl hn=>by
    rw[sw.k.get l (by have:=kY.len;have:=kY1.len;omega) (by rintro (hh|hh);have:=kY.len;omega;exact hh),kY1.get l (by have:=kY.len;omega) id];exact kY.get l hl hn⟩
  have f2:=kZ.at p2 id;have hr8:r.size=8∧r.cells.all V.flat=true∧V.part r 0 (some 8)=some r:=by rw[hr'];exact ⟨Sm.v_size _,by simp,JD _⟩
  have hst:stS Z (.ptr (S.length+2) 0 0 1) 8 r=some (Z.set (S.length+2) (.arr [r] 8 1)):=by simp[stS,f2,qc,hr8]
  simp[hst,g4];have hz:(Z.set (S.length+2) (.arr [r] 8 1))[S.length+2]?=some (.arr [r] 8 1):=qpW (glt f2);exact qi (vs:=[r]) (by simp[rvs,g4,ldS,hz,hr8]) ⟨hr',(kS.trans kZ).set _ (.inr (by omega))⟩
set_option maxRecDepth 20000
noncomputable def c14:F':=⟨61,[.t 4],.k [.B 2 0,.F 4] (.seq (.k [.j 9 8 2,.c 10 17 9,.o 11 (.un .not (.t 10)),.m 12 11,.V 13 12 false 1,.v 14 12 false (.len false (.t 13)),.v 15 12 false (.bin .gtr (.t 14) (.c (.int .i64 520))),.z 16 12 15] (.d 16 (.k [.o 17 (.call (.f 18) []),.m 4 17] .ret) .skip)) (.k [.j 19 8 2,.m 20 1,.w 21 46 19 20,.m 18 21,.e 22 0 18,.e 23 1 18,.o 5 (.new zS),.s 8 5 22,.m 6 23] (.k [.j 24 8 2,.c 25 20 24,.m 7 25] (.seq (.k [.m 26 7,.u 27 .eql 26 0,.m 28 27,.V 29 28 true 1,.v 30 28 true (.len false (.t 29)),.v 31 28 true (.bin .gtr (.t 30) (.c (.int .i64 500))),.y 32 28 31] (.d 32 (.reg [.G 7 2]) .skip)) (.seq (.k [.m 33 7,.u 34 .neq 33 0] (.d 34 (.k [.o 35 (.call (.f 18) []),.m 36 35,.V 37 36 true 6,.V 38 36 true 7,.N 39 36 true .eql 37 38,.y 40 36 39,.m 4 40] .ret) .skip)) (.k [.j 41 8 2,.m 42 1,.w 43 47 41 42,.o 8 (.new zS),.s 8 8 43] (.k [.j 44 8 8,.c 45 20 44,.m 7 45] (.k [.o 46 (.call (.f 18) []),.m 47 46,.V 48 47 true 6,.V 49 47 true 7,.N 50 47 true .eql 48 49,.y 51 47 50,.m 52 51,.V 53 52 true 6,.v 54 52 true (.bin .neq (.t 53) (.c z0)),.V 55 52 true 54,.v 56 55 false (.ld (some 8) (.t 5)),.v 57 55 false (.ld (some 8) (.t 8)),.v 58 55 false (.call (.f 23) [(.t 56),(.t 57)]),.v 59 52 true (.pick (.t 55) (.c (.bool true)) (.t 58)),.y 60 52 59,.m 4 60] .ret))))))))⟩
theorem ok14:okF f14 c14:=okI
noncomputable def c46:F':=⟨28,[.cell 4 (some 8),.t 5],.k [.B 2 0,.o 4 (.new zS),.G 5 0] (.seq (.k [.j 8 8 2,.c 9 56 8,.m 6 9] (.k [.m 10 6,.u 11 .neq 10 0] (.d 11 (.k [.o 12 (.build zS []),.m 13 6,.s 8 4 12,.m 5 13] .ret) .skip))) (.seq (.k [.m 14 1,.L 15 14,.u 16 .gtr 15 500] (.d 16 (.k [.o 17 (.build zS []),.s 8 4 17,.G 5 2] .ret) .skip)) (.k [.o 18 (.ex (.mkm)),.m 7 18] (.k [.m 19 7,.m 20 1,.w 21 79 19 20] (.k [.j 22 8 2,.m 23 7,.w 24 95 22 23,.c 25 82 24,.e 26 0 25,.e 27 1 25,.s 8 4 26,.m 5 27] .ret)))))⟩
theorem ok46:okF f46 c46:=okI
noncomputable def c47:F':=⟨71,[.cell 4 (some 8)],.k [.B 2 0,.o 4 (.new zS)] (.k [.o 9 (.build (.agg [(.sl true []),(.sl true []),(.sl true []),(.sl true []),(.sl true []),(.bool false),(.bool false)]) []),.B 10 9,.m 5 10] (.k [.m 11 5,.j 12 8 2,.w 13 67 11 12] (.k [.o 14 (.bsl 1 []),.m 15 5,.h 16 15,.f 17 0 16,.l 18 17,.o 19 (.app 1 16 (.t 14) (.t 18)),.o 20 (.build (.agg [(.sl true []),(.sl true []),(.sl true []),(.sl true []),(.sl true []),(.bool false),(.bool false)]) [(2,2,1,(.t 19))]),.B 21 20,.m 6 21] (.seq (.k [.G 7 0] (.block 0 (.loop (.seq (.k [.m 22 7,.m 23 6,.h 24 23,.f 25 2 24,.l 26 25,.L 27 26,.b 28 .lss 22 27] (.d 28 .skip (.exit 0))) (.seq (.block 1 (.k [.m 31 1,.m 32 6,.h 33 32,.f 34 2 33,.l 35 34,.m 36 7,.i 37 1 35 36,.l 38 37,.w 39 34 31 38] (.d 39 (.seq (.draw [.p (.o 40 (.bsl 1 [])) [],.p (.m 41 5) [],.p (.h 42 41) [1],.p (.f 43 1 42) [2,1],.p (.l 44 43) [3,2,1],.q (.o 45 (.app 1 16 (.t 40) (.t 44))) true false [0,4,3,2,1] 0 0,.q (.m 46 6) false false [] 0 1,.q (.h 47 46) false false [6] 0 1,.q (.f 48 2 47) false false [7,6] 0 1,.q (.l 49 48) false true [8,7,6] 0 1,.q (.o 50 (.app 1 16 (.t 45) (.t 49))) true false [9,5,8,7,6,0,4,3,2,1] 1 1,.q (.m 51 1) false false [] 0 2,.q (.o 52 (.app 1 16 (.t 50) (.t 51))) true false [11,10,9,5,8,7,6,0,4,3,2,1] 2 2,.q (.m 8 52) false false [12,11,10,9,5,8,7,6,0,4,3,2,1] 3 3] []) (.draw [.q (.m 53 6) false false [] 0 1,.q (.h 54 53) false false [0] 0 1,.q (.f 55 2 54) false false [1,0] 0 1,.q (.l 56 55) false true [2,1,0] 0 1,.q (.m 57 7) false false [] 0 1,.p (.m 58 6) [],.p (.h 59 58) [5],.p (.f 60 2 59) [6,5],.p (.l 61 60) [7,6,5],.p (.m 62 7) [],.p (.i 63 1 61 62) [8,9,7,6,5],.p (.l 64 63) [10,8,9,7,6,5],.p (.m 65 8) [],.q (.w 66 45 64 65) true false [11,12,10,8,9,7,6,5] 0 0,.q (.i 67 1 56 57) false false [3,4,13,2,1,0,11,12,10,8,9,7,6,5] 1 1,.q (.s 1 67 66) true false [14,3,4,13,2,1,0,11,12,10,8,9,7,6,5] 1 1] [])) .skip))) (.reg [.m 29 7,.u 30 .add 29 1,.m 7 30])))))) (.k [.m 68 6,.j 69 8 2,.w 70 67 68 69,.s 8 4 70] .ret)))))⟩
theorem ok47:okF f47 c47:=okI
theorem qie{tk tk' fr fr':List Bz}(h1:∀x,x∈tk↔x∈tk')(h2:∀x,x∈fr↔x∈fr')(done:List Bz)(x:Bz)(rest:List Bz):apN tk fr done x rest=apN tk' fr' done x rest:=by
 have hi:ZG x tk=ZG x tk':=by rw[qqy,zq,zq];exact h1 x
 have hf:frs x (fr++(done++x::rest)++tk)=frs x (fr'++(done++x::rest)++tk'):=qiD fun y=>by
  simp only[qqc,h1,h2]
 unfold apN;rw[hi,hf]
theorem qcb{tk tk' fr fr':List Bz}(h1:∀x,x∈tk↔x∈tk')(h2:∀x,x∈fr↔x∈fr'):∀(rest done:List Bz),apL tk fr done rest=apL tk' fr' done rest
 | [],done=>by simp[apL]
 | x::rest,done=>by rw[apL,apL,qie h1 h2,qcb h1 h2 rest]
def Sm.aps(s:Sm)(taken:List Bz):List Bz:=apL (taken.foldl Yv []) s.frees [] s.bounds
theorem Sm.aps_length(s:Sm)(taken:List Bz):(s.aps taken).length=Sm.nb1 [s]:=by
 unfold Sm.aps;rw[YL,s.bounds_len];simp
theorem Sm.aps_size(s:Sm)(va:(Pa.st s).valid qb=true)(hsz:(Pa.st s).size<150)(hn:Sm.nb1 [s]<150){taken:List Bz}(ht:taken.length≤500):∀x,x∈s.aps taken→x.size≤16:=by
 refine qck _ _ _ _ (fun x hx=>by simp at hx) (fun x hx=>ZM (s.bounds_nm va x hx)) ?_;have h1:=Js (l:=taken) (ks:=[]);have h2:=s.frees_len0';have h3:=s.bounds_len;simp only[qq3] at h1 ⊢;omega
theorem ql6{l:List Bz}(h:∀x,x∈l→x.size≤16)(k:Nat):(lf l k).size≤B50:=by
 unfold lf
 cases hk:l[k]? with
 | none=>exact qqB _
 | some x=>exact qqS (h x (qp6 hk)) (by decide)
def Sm.ap(s:Sm)(taken:List Bz):Sm:=s.whole (lf (s.aps taken))
theorem Sm.ap_ok(s:Sm)(hs:s.ok)(va:(Pa.st s).valid qb=true)(hsz:(Pa.st s).size<150)(hn:Sm.nb1 [s]<150){taken:List Bz}(ht:taken.length≤500):(s.ap taken).ok:=
 Sm.whole_ok (f:=lf (s.aps taken)) (N:=1000) (fun k _=>ql6 (s.aps_size va hsz hn ht) k) s (by omega) hs
theorem qnX(x:Sm)(hx:x.ok)(S:St):qB prog 82 [x.v] S (fun r U=>r=.tup [if (Pa.st x).err qb=0 then x.v else smZ,.int .i64 ((Pa.st x).err qb)]∧Kp (fun _=>False) S U):=by
 refine qB.ib func82 ok82 ?_;obtain ⟨S1,hS1⟩:∃S1:St,S1=S++[.arr [x.v] 8 1,.arr [smZ] 8 1]:=⟨_,rfl⟩;have b0:S1[S.length]?=some (.arr [x.v] 8 1):=by rw[hS1];simp
 have b1:S1[S.length+1]?=some (.arr [smZ] 8 1):=by rw[hS1,qpV (by omega)];simp
 have kS:Kp (fun _=>False) S S1:=by rw[hS1];exact (Kp.refl _ _).push _
 have d0:ldS S1 (.ptr S.length 0 0 1) (some 8)=some x.v:=by simp[ldS,b0]
 simp[c82,qw];rw[←hS1];simp[d0];refine qj (qi4 x hx S1) ?_;by_cases h0:(Pa.st x).err qb=0
 ·simp[h0,d0,stS,b1,qc];have hz:(S1.set (S.length+1) (.arr [x.v] 8 1))[S.length+1]?=some (.arr [x.v] 8 1):=qpW (glt b1);exact qi (vs:=[x.v,.int .i64 0]) (by simp[rvs,ldS,hz]) ⟨rfl,kS.set _ (.inr (by omega))⟩
 ·simp[h0,qh,ql,stS,b1,qc];have hz:(S1.set (S.length+1) (.arr [smZ] 8 1))[S.length+1]?=some (.arr [smZ] 8 1):=qpW (glt b1);exact qi (vs:=[smZ,.int .i64 ((Pa.st x).err qb)]) (by simp[rvs,ldS,hz,qf]) ⟨rfl,kS.set _ (.inr (by omega))⟩
def apE(s:Sm)(taken:List Bz):Int:=if (Pa.st s).err qb≠0 then (Pa.st s).err qb else if 500<taken.length then 2 else (Pa.st (s.ap taken)).err qb
def apV(s:Sm)(taken:List Bz):V:=if apE s taken=0 then (s.ap taken).v else smZ
theorem qnD(s:Sm)(hs:s.ok)(hsz:(Pa.st s).size<150)(hn:Sm.nb1 [s]<150)(b:Bool)(taken:List Bz)(htl:taken.length≤1000000)(S:St):
  qB prog 46 [s.v,.sl b (taken.map .str)] S (fun r U=>r=.tup [apV s taken,.int .i64 (apE s taken)]∧Kp (fun _=>False) S U):=by
 refine qB.ib func46 ok46 ?_;obtain ⟨S1,hS1⟩:∃S1:St,S1=S++[.arr [s.v] 8 1,.arr [smZ] 8 1]:=⟨_,rfl⟩;have b0:S1[S.length]?=some (.arr [s.v] 8 1):=by rw[hS1];simp
 have b1:S1[S.length+1]?=some (.arr [smZ] 8 1):=by rw[hS1,qpV (by omega)];simp
 have kS:Kp (fun _=>False) S S1:=by rw[hS1];exact (Kp.refl _ _).push _
 have d0:ldS S1 (.ptr S.length 0 0 1) (some 8)=some s.v:=by simp[ldS,b0]
 have he:apE s taken=if (Pa.st s).err qb≠0 then (Pa.st s).err qb else if 500<taken.length then 2 else (Pa.st (s.ap taken)).err qb:=rfl
 have hv:apV s taken=if apE s taken=0 then (s.ap taken).v else smZ:=rfl
 have fin:∀(Y:St) (y:V) (e:Int) (ev:Env),Kp (fun _=>False) S1 Y→apV s taken=y→apE s taken=e→ev.get 4=some (.ptr (S.length+1) 0 0 1)→ev.get 5=some (.int .i64 e)→V.part y 0 (some 8)=some y→
   Z4 [.cell 4 (some 8),.t 5] S.length (fun r U=>r=.tup [apV s taken,.int .i64 (apE s taken)]∧Kp (fun _=>False) S U) .ret ev (Y.set (S.length+1) (.arr [y] 8 1)):=fun Y y e ev kY hy he g4 g5 hp=>by
  have h1:=kY.at b1 id;have h2:(Y.set (S.length+1) (.arr [y] 8 1))[S.length+1]?=some (.arr [y] 8 1):=qpW (glt h1);exact qi (vs:=[y,.int .i64 e]) (by simp[rvs,g4,g5,ldS,h2,hp]) ⟨by rw[hy,he];rfl,(kS.trans kY).set _ (.inr (by omega))⟩
 simp[c46,qw];rw[←hS1];simp[d0];refine qj (qi4 s hs S1) ?_;by_cases h0:(Pa.st s).err qb=0
 case neg=>
  rw[if_pos h0] at he;rw[he,if_neg h0] at hv;simp[h0,qh,ql,stS,b1,qc];refine fin _ smZ _ _ (Kp.refl _ _) hv he ?_ ?_ rfl <;> simp
 rw[if_neg (by rw[h0];simp)] at he;have va:=(kR h0).2;by_cases h5:500<taken.length
 ·rw[if_pos h5] at he;rw[he,if_neg (by simp)] at hv;simp[h0,show (500:Int)<taken.length by omega,qh,ql,stS,b1,qc];refine fin _ smZ _ _ (Kp.refl _ _) hv he ?_ ?_ rfl <;> simp
 rw[if_neg h5] at he;simp[h0,show ¬ (500:Int)<taken.length by omega,evX];obtain ⟨S2,hS2⟩:∃S2:St,S2=S1++[.map [] [] 0]:=⟨_,rfl⟩;have m2:S2[S1.length]?=some (.map (([]:List Bz).map kv) [] 0):=by rw[hS2];simp
 rw[←hS2];refine qm (qi2 b taken [] [] 0 S1.length S2 htl m2) ?_;rintro r U ⟨bs,ck,_,rfl⟩;obtain ⟨U,hU⟩:∃U,U=S2.set S1.length (.map ((taken.foldl Yv []).map kv) bs ck):=⟨_,rfl⟩;have mU:U[S1.length]?=some (.map ((taken.foldl Yv []).map kv) bs ck):=by rw[hU];exact qpW (glt m2)
 have kU:Kp (fun _=>False) S1 U:=by rw[hU,hS2];exact ((Kp.refl _ _).push _).set _ (.inr (qp0 _))
 rw[←hU]
 have d1:ldS U (.ptr S.length 0 0 1) (some 8)=some s.v:=by
  have:=kU.at b0 id;simp[ldS,this]
 simp[d1];refine qm (qn4 s hs va hsz hn (taken.foldl Yv []) (by have:=Js (l:=taken) (ks:=[]);simp only[qq3] at this;omega) S1.length bs ck U mU) ?_;rintro r U2 ⟨rfl,k2⟩;have hy:=s.ap_ok hs va hsz hn (taken:=taken) (by omega);obtain ⟨y,hyy⟩:∃y,y=s.ap taken:=⟨_,rfl⟩;have hya:s.whole (lf (apL (taken.foldl Yv []) s.frees [] s.bounds))=y:=by rw[hyy];rfl
 rw[←hyy] at hy he hv;rw[hya];simp;refine qm (qnX y hy U2) ?_;rintro r U3 ⟨rfl,k3⟩;have kk:=(kU.trans k2).trans k3;have c1:=kk.at b1 id;by_cases hy0:(Pa.st y).err qb=0
 ·rw[he,if_pos hy0] at hv;rw[hy0] at he;simp[hy0,stS,c1,qc];refine fin _ y.v 0 _ kk hv he ?_ ?_ (JD _) <;> simp
 ·rw[he,if_neg hy0] at hv;simp[hy0,stS,c1,qc];refine fin _ smZ _ _ kk hv he ?_ ?_ rfl <;> simp
theorem Gs.app{w:Nat}{F D:Np}{xs:List Bz}{v:V}{S:St}(h:Gs w F xs v S)(hlt:∀l,F l∨D l→l<S.length)(hw:w<S.length)(x:Bz)(hr:(xs.length+1) * 16≤2 ^ 47)(b:Bool):
  ∃v' S' F',QP S 1 16 v (.sl b [.str x])=some (v',S')∧Gs w F' (xs++[x]) v' S'∧S.length≤S'.length∧(∀l o,S[l]?=some o→(∀a b c,v≠.arr l a b c)→S'[l]?=some o)∧(∀l,F' l↔F l∨v=.sl true []∧l=S.length)∧(∀l,l<S.length→¬ F l→S'[l]?=S[l]?)∧(∀l,F' l→l<S'.length)∧(v=.sl true []→v'=.arr S.length 0 1 1)∧(∀l a b c,v=.arr l a b c→v'=.arr l 0 (xs.length+1) (xs.length+1)):=by
 have hy:fits 1 [V.str x]=true:=rfl;rcases h with ⟨rfl,rfl⟩|⟨l,wr,h1,h2,rfl,h3,h4⟩
 ·refine ⟨.arr S.length 0 1 1,S++[.arr [.str x] 1 1],fun l=>F l∨l=S.length,?_,.inr ⟨S.length,1,.inr rfl,by omega,by simp,by simp,by simp⟩,by simp,fun l o h _=>gp h,fun l=>by simp,fun l hl _=>by rw[qpY hl],?_,fun _=>rfl,fun l a b c hh=>by cases hh⟩
  ·unfold QP;rw[yf];have hc:true=true∧fits 1 [V.str x]=true∧(([]:List V).all fun v=>v.size==1)=true∧(([]:List V).length+[V.str x].length) * 16≤2 ^ 47:=⟨rfl,hy,rfl,by simp⟩;show (if [V.str x].isEmpty=true then _ else _)=_;rw[if_neg (by simp),if_pos hc];simp
  ·rintro l (hl|rfl)
   ·have:=hlt l (.inl hl);simp;omega
   ·simp
 ·have hc:0=0∧xs.length=(xs.map V.str).length∧xs.length=(xs.map V.str).length∧1=1∧fits 1 [V.str x]=true∧((xs.map V.str).length+[V.str x].length) * 16≤2 ^ 47:=⟨rfl,by simp,by simp,rfl,hy,by simpa using hr⟩;have hlt':l<S.length:=(qpU.1 h3).1;refine ⟨.arr l 0 (xs.length+1) (xs.length+1),S.set l (.arr (xs.map .str++[.str x]) 1 wr),F,?_,.inr ⟨l,wr,h1,h2,by simp,by rw[qpW hlt'];simp,by simp;omega⟩,by simp,fun k o ho hne=>?_,fun l=>by simp,fun k hk hn=>?_,fun k hk=>by have:=hlt k (.inl hk);simpa using this,fun hh=>(by cases hh),fun l a b c hh=>by cases hh;rfl⟩
  ·unfold QP;rw[yf];show (match S[l]? with|_=>_)=_;rw[h3];show (if _ then _ else _)=_;rw[if_pos hc];simp
  ·rw[qpX (by rintro rfl;exact hne _ _ _ rfl)];exact ho
  ·rw[qpX (by rintro rfl;exact hn h1)]
theorem Rk.addB{r:Rp}{bf bt:Bool}{w:Nat}{fv:V}{bound:List Bz}{st:Rst}{F D:Np}{S:St}(h:Rk r bf bt w fv bound st F D S)(x:Bz)(hr:(bound.length+1) * 16≤2 ^ 47)(b:Bool):
  ∃vb vf vb' S' F',S[w]?=some (wkO r bf bt fv vb vf st)∧QP S 1 16 vb (.sl b [.str x])=some (vb',S')∧S'[w]?=some (wkO r bf bt fv vb vf st)∧vb'.cells=[vb']∧vb'.flat=true∧vb'.size=1∧lenS vb=some (.int .i64 bound.length)∧Rk r bf bt w fv (bound++[x]) st F' D (S'.set w (wkO r bf bt fv vb' vf st))∧Stp w F D S F' D (S'.set w (wkO r bf bt fv vb' vf st)):=by
 obtain ⟨vb,vf,h1,h2,h3,h4⟩:=h.wx;obtain ⟨vb',S',F',a1,a2,a3,a4,a5,a6,a7,a8,a9⟩:=h2.app h.lt h.lw x hr b;have hlw:=h.lw;have hw':S'[w]?=some (wkO r bf bt fv vb vf st):=by rw[a6 w h.lw h.nF];exact h1
 have hset:∀l o,l≠w→S'[l]?=some o→(S'.set w (wkO r bf bt fv vb' vf st))[l]?=some o:=fun l o hl ho=>by rw[qpX (Ne.symm hl)];exact ho
 have hFn:∀l,F' l→F l∨S.length≤l:=fun l hl=>((a5 l).1 hl).imp id fun hh=>by omega
 have hvf:Gs w F' st.free vf (S'.set w (wkO r bf bt fv vb' vf st)):=by
  rcases h3 with hh|⟨l,wr,z1,z2,z3,z4,z5⟩
  ·exact .inl hh
  ·refine .inr ⟨l,wr,(a5 l).2 (.inl z1),z2,z3,hset _ _ z2 (a4 l _ z4 fun a b c hh=>h4 l a b c hh _ _ _ z3),z5⟩
 obtain ⟨f1,f2,f3,_⟩:=a2.flat;refine ⟨vb,vf,vb',S',F',h1,a1,hw',f1,f2,f3,h2.flat.2.2.2,⟨⟨vb',vf,?_,?_,?_,?_⟩,?_,?_,?_,h.nD,?_,?_⟩,⟨?_,?_⟩,hFn,grow.refl _ _⟩
 ·exact qpW (by omega)
 ·exact a2.keep fun l o hl ho=>hset _ _ (fun hh=>by subst hh;rcases hFn _ hl with hh|hh;exact h.nF hh;omega) ho
 ·exact hvf
 ·intro l a b c hb a' b' c' hf;rcases h2 with ⟨_,rfl⟩|⟨l0,wr,z1,z2,rfl,z4,z5⟩
  ·rw[a8 rfl] at hb;cases hb;rcases h3 with ⟨_,hh⟩|⟨l1,wr1,y1,y2,y3,y4,y5⟩
   ·rw[hh] at hf;cases hf
   ·rw[y3] at hf;cases hf;have:=glt y4;omega
  ·rw[a9 _ _ _ _ rfl] at hb;cases hb;exact h4 _ _ _ _ rfl _ _ _ hf
 ·exact h.fr.keep fun l o hl ho=>hset _ _ (fun hh=>h.nD (hh ▸ hl)) (by rw[a6 l (h.lt l (.inr hl)) (fun hf=>h.di l hf hl)];exact ho)
 ·rintro l (hl|hl)
  ·have:=a7 l hl;simpa using this
  ·have:=h.lt l (.inr hl);simp;omega
 ·intro hf;rcases hFn _ hf with hh|hh
  ·exact h.nF hh
  ·omega
 ·intro l hl hd;rcases hFn _ hl with hh|hh
  ·exact h.di l hh hd
  ·have:=h.lt l (.inr hd);omega
 ·simp;omega
 ·simp;omega
 ·intro l hl hn;rw[qpX (fun hh=>hn (.inl hh.symm)),a6 l hl fun hf=>hn (.inr hf)]
theorem Rk.addF{r:Rp}{bf bt:Bool}{w:Nat}{fv:V}{bound:List Bz}{st:Rst}{F D:Np}{S:St}(h:Rk r bf bt w fv bound st F D S)(x:Bz)(hr:(st.free.length+1) * 16≤2 ^ 47)(b:Bool):
  ∃vb vf vf' S' F',S[w]?=some (wkO r bf bt fv vb vf st)∧QP S 1 16 vf (.sl b [.str x])=some (vf',S')∧S'[w]?=some (wkO r bf bt fv vb vf st)∧vf'.cells=[vf']∧vf'.flat=true∧vf'.size=1∧Rk r bf bt w fv bound { st with free:=st.free++[x] } F' D (S'.set w (wkO r bf bt fv vb vf' st))∧Stp w F D S F' D (S'.set w (wkO r bf bt fv vb vf' st)):=by
 obtain ⟨vb,vf,h1,h3,h2,h4⟩:=h.wx;obtain ⟨vf',S',F',a1,a2,a3,a4,a5,a6,a7,a8,a9⟩:=h2.app h.lt h.lw x hr b;have hlw:=h.lw;have hw':S'[w]?=some (wkO r bf bt fv vb vf st):=by rw[a6 w h.lw h.nF];exact h1
 have hset:∀l o,l≠w→S'[l]?=some o→(S'.set w (wkO r bf bt fv vb vf' st))[l]?=some o:=fun l o hl ho=>by rw[qpX (Ne.symm hl)];exact ho
 have hFn:∀l,F' l→F l∨S.length≤l:=fun l hl=>((a5 l).1 hl).imp id fun hh=>by omega
 have hvf:Gs w F' bound vb (S'.set w (wkO r bf bt fv vb vf' st)):=by
  rcases h3 with hh|⟨l,wr,z1,z2,z3,z4,z5⟩
  ·exact .inl hh
  ·refine .inr ⟨l,wr,(a5 l).2 (.inl z1),z2,z3,hset _ _ z2 (a4 l _ z4 fun a b c hh=>h4 l _ _ _ z3 a b c hh),z5⟩
 obtain ⟨f1,f2,f3,_⟩:=a2.flat;refine ⟨vb,vf,vf',S',F',h1,a1,hw',f1,f2,f3,⟨⟨vb,vf',?_,?_,?_,?_⟩,?_,?_,?_,h.nD,?_,?_⟩,⟨?_,?_⟩,hFn,grow.refl _ _⟩
 ·exact qpW (by omega)
 ·exact hvf
 ·exact a2.keep fun l o hl ho=>hset _ _ (fun hh=>by subst hh;rcases hFn _ hl with hh|hh;exact h.nF hh;omega) ho
 ·intro l a b c hb a' b' c' hf;rcases h2 with ⟨_,rfl⟩|⟨l0,wr,z1,z2,rfl,z4,z5⟩
  ·rw[a8 rfl] at hf;cases hf;rcases h3 with ⟨_,hh⟩|⟨l1,wr1,y1,y2,y3,y4,y5⟩
   ·rw[hh] at hb;cases hb
   ·rw[y3] at hb;cases hb;have:=glt y4;omega
  ·rw[a9 _ _ _ _ rfl] at hf;cases hf;exact h4 _ _ _ _ hb _ _ _ rfl
 ·exact h.fr.keep fun l o hl ho=>hset _ _ (fun hh=>h.nD (hh ▸ hl)) (by rw[a6 l (h.lt l (.inr hl)) (fun hf=>h.di l hf hl)];exact ho)
 ·rintro l (hl|hl)
  ·have:=a7 l hl;simpa using this
  ·have:=h.lt l (.inr hl);simp;omega
 ·intro hf;rcases hFn _ hf with hh|hh
  ·exact h.nF hh
  ·omega
 ·intro l hl hd;rcases hFn _ hl with hh|hh
  ·exact h.di l hh hd
  ·have:=h.lt l (.inr hd);omega
 ·simp;omega
 ·simp;omega
 ·intro l hl hn;rw[qpX (fun hh=>hn (.inl hh.symm)),a6 l hl fun hf=>hn (.inr hf)]
theorem Rk.flag{r:Rp}{bf bt:Bool}{w:Nat}{fv:V}{bound:List Bz}{st:Rst}{F D:Np}{S:St}(h:Rk r bf bt w fv bound st F D S)(b c:Bool):
  ∃vb vf,S[w]?=some (wkO r bf bt fv vb vf st)∧vb.cells=[vb]∧vf.cells=[vf]∧Rk r bf bt w fv bound { st with bad:=b,caught:=c } F D (S.set w (wkO r bf bt fv vb vf { st with bad:=b,caught:=c }))∧Stp w F D S F D (S.set w (wkO r bf bt fv vb vf { st with bad:=b,caught:=c })):=by
 obtain ⟨vb,vf,h1,h2,h3,h4⟩:=h.wx;have g:∀l o,l≠w→S[l]?=some o→(S.set w (wkO r bf bt fv vb vf { st with bad:=b,caught:=c }))[l]?=some o:=fun l o hl ho=>by rw[qpX (Ne.symm hl)];exact ho
 refine ⟨vb,vf,h1,h2.flat.1,h3.flat.1,⟨⟨vb,vf,qpW h.lw,h2.keep fun l o hl=>g l o (fun hh=>h.nF (hh ▸ hl)),h3.keep fun l o hl=>g l o (fun hh=>h.nF (hh ▸ hl)),h4⟩,h.fr.keep fun l o hl=>g l o (fun hh=>h.nD (hh ▸ hl)),fun l hl=>by have:=h.lt l hl;simpa using this,h.nF,h.nD,h.di,by simpa using h.lw⟩,⟨(Kp.refl _ _).set _ (.inl (.inl rfl)),grow.refl _ _,grow.refl _ _⟩⟩
def Nr(w:Nat)(F D:Np)(names:List Bz)(v:V)(S:St):Prop:=(∃b,v=.sl b (names.map .str))∨∃l wr,Off w F D l∧v=.arr l 0 names.length names.length∧S[l]?=some (.arr (names.map .str) 1 wr)∧wr≤names.length
theorem Nr.step{w:Nat}{F D F' D':Np}{names:List Bz}{v:V}{S U:St}(h:Nr w F D names v S)(s:Stp w F D S F' D' U):Nr w F' D' names v U:=by
 rcases h with h|⟨l,wr,h2,h3,h4,h5⟩
 ·exact .inl h
 ·exact .inr ⟨l,wr,h2.next (glt h4) s,h3,s.at h2 h4,h5⟩
theorem Nr.rd{w:Nat}{F D:Np}{names:List Bz}{v:V}{S:St}(h:Nr w F D names v S):Rd v names S:=by
 rcases h with ⟨b,rfl⟩|⟨l,wr,h1,rfl,h4,h5⟩
 ·exact Rd.sl b names S
 ·exact Rd.arr h4 h5
theorem Gw.other{sz n0 w:Nat}{F D:Np}{xs:List V}{v:V}{S U:St}(h:Gw sz n0 w F D xs v S)(hk:∀l o,S[l]?=some o→(∀a b c,v=.arr l a b c→U[l]?=some o)):Gw sz n0 w F D xs v U:=by
 rcases h with h|⟨l,wr,h1,h2,h3,h4,h5⟩
 ·exact .inl h
 ·exact .inr ⟨l,wr,h1,h2,h3,hk l _ h4 _ _ _ h3,h5⟩
theorem Gw.rd{n0 w:Nat}{F D:Np}{names:List Bz}{v:V}{S:St}(h:Gw 1 n0 w F D (names.map .str) v S):Rd v names S:=by
 rcases h with ⟨h1,rfl⟩|⟨l,wr,h1,h2,rfl,h4,h5⟩
 ·rw[List.map_eq_nil_iff] at h1;subst h1;exact Rd.sl true [] S
 ·rw[qp2] at h5 ⊢;exact Rd.arr h4 h5
theorem qin(s:Sco)(x:Bz):ZG x (s.map (·.1))=(Sco.at s x).isSome:=by
 cases h:Sco.at s x with
 | none=>
  rw[QS.2]
  ·rfl
  intro hm;obtain ⟨e,he,rfl⟩:=qql.1 hm;exact qbr.1 h e he rfl
 | some k=>
  rw[zq.2]
  ·rfl
  unfold Sco.at at h;rw[qp3] at h;obtain ⟨e,he,_⟩:=h;have h1:=List.find?_some he;simp only[decide_eq_true_eq] at h1;rw[←h1];exact qqz (List.mem_of_find?_eq_some he)
def JR(v u:V):Prop:=∀l a b c,v=.arr l a b c→∀a' b' c',u≠.arr l a' b' c'
structure Ei(r:Rp)(bf bt:Bool)(w:Nat)(fv:V)(bound:List Bz)(st:Rst)(F D:Np)(S:St)(sc:Scs)(names:List Bz)(nv:V)(i:Nat)(hv ov:V)(F' D':Np)(U:St):Prop where
 rk:Rk r bf bt w fv (bound++(qd (names.take i) bound.length).map (·.1)) st F' D' U
 st:Stp w F D S F' D' U
 had:Gw 1 S.length w F' D' (((qd (names.take i) bound.length).map (·.1)).map .str) hv U
 out:Gw 2 S.length w F' D' ((Scs.flat sc++qd (names.take i) bound.length).map yj) ov U
 nr:Nr w F' D' names nv U
 df:JR hv ov
def EiL(r:Rp)(bf bt:Bool)(w:Nat)(fv:V)(bound:List Bz)(st:Rst)(F D:Np)(S:St)(sc:Scs)(names:List Bz)(nv:V)(j:Nat)(e:Env)(U:St):Prop:=
 ∃(i:Nat) (hv ov:V) (F' D':Np),j=names.length - i∧i≤names.length∧Ei r bf bt w fv bound st F D S sc names nv i hv ov F' D' U∧e=[(9,.int .i64 i),(7,hv),(8,ov),(0,.ptr w 0 0 1),(2,nv)]
def EiE(r:Rp)(bf bt:Bool)(w:Nat)(fv:V)(bound:List Bz)(st:Rst)(F D:Np)(S:St)(sc:Scs)(names:List Bz)(nv:V)(e:Env)(U:St):Prop:=
 ∃(hv ov:V) (F' D':Np),Ei r bf bt w fv bound st F D S sc names nv names.length hv ov F' D' U∧e.get 8=some ov
theorem qhk(l:Sco):V.weakL (l.map yj)=l.map yj:=QY (fun _=>rfl) l
theorem qb6(r:Rp)(bf bt:Bool)(w:Nat)(fv:V)(bound:List Bz)(st:Rst)(F D:Np)(S:St)(hk:Rk r bf bt w fv bound st F D S)(b:Bool)(sc:Scs)(names:List Bz)(nv:V)(hnr:Nr w F D names nv S)
  (hl:(Scs.flat sc).length+names.length≤100000) (hb:bound.length+names.length≤100000):
  qB prog 162 [.ptr w 0 0 1,.sl b ((Scs.flat sc).map yj),nv] S (fun v U=>Rd' w (Rk r bf bt w fv (bound++nms names) st) F D S (.sl false ((Scs.flat (qd names bound.length::sc)).map yj)) v U):=by
 refine qB.ib func162 ok162 ?_;have fm:=Rk.frm r bf bt w fv bound st;have hfb:fits 2 ((Scs.flat sc).map yj)=true:=by simp[fits,yj,V.size,V.cells,V.flat]
 obtain ⟨ov,S1,ha,hg,hk1,hs1,_⟩:=(Gw.nil 2 S.length w F D S).appF fm (bytes:=24) (x:=.sl b ((Scs.flat sc).map yj)) hk (Stp.refl _ _ _ _) (yf _ _ _) hfb (by simp;omega);rw[qqn] at hg;have hf0:fits 2 []=true:=rfl;simp[c162,hf0,ha];refine qE (EiE r bf bt w fv bound st F D S sc names nv) ?_ ?_
 ·refine qq (EiL r bf bt w fv bound st F D S sc names nv) names.length _ ?_ ⟨0,.sl true [],ov,F,D,by simp,by omega,⟨by simpa[qd,binds] using hk1,hs1,by simpa[qd,binds] using Gw.nil 1 S.length w F D S1,by simpa[qd,binds] using hg,hnr.step hs1,fun l a b c hh=>by cases hh⟩,rfl⟩ ?_
  ·exact Env.so (by simp)
  rintro j e U ⟨i,hv,ov,F1,D1,rfl,hi,ei,rfl⟩;obtain ⟨hlen,hrd⟩:=ei.nr.rd;by_cases hlt:i<names.length
  ·obtain ⟨p,hp1,hp2⟩:=hrd i hlt;have hsn:=yC names[i] (names.take i) bound.length;have hte:names.take i++[names[i]]=names.take (i+1):=by rw[qp9,qpZ hlt];rfl
   rw[hte] at hsn;have hbl:=Zx names bound.length (names.length - i) i (by omega);have hbl2:=qfm names bound.length;have hin:=qbx hv ((qd (names.take i) bound.length).map (·.1)) names[i] U (by rw[qp2];omega) ei.had.rd;rw[qin] at hin;simp[↓yz,hlen,hlt,hp1,hp2];refine qj hin ?_
   cases hat:(Sco.at (qd (names.take i) bound.length) names[i]).isSome with
   | true=>
    rw[hat] at hsn;simp only[if_true] at hsn;simp[qO (n:=(i:Int)+1)];refine ⟨_,?_,_,?_,i+1,hv,ov,F1,D1,rfl,by omega,⟨by rw[hsn];exact ei.rk,ei.st,by rw[hsn];exact ei.had,by rw[hsn];exact ei.out,ei.nr,ei.df⟩,rfl⟩
    ·omega
    ·exact Env.so (by simp)
   | false=>
    rw[hat] at hsn;simp only[qqv,if_false] at hsn;have fmi:=Rk.frm r bf bt w fv (bound++(qd (names.take i) bound.length).map (·.1)) st;have hfs:fits 1 [V.str names[i]]=true:=rfl;obtain ⟨hv',U1,a1,a2,a3,a4,a5,a6⟩:=ei.had.app1F fmi (bytes:=16) (b:=true) (y:=.str names[i]) ei.rk ei.st hfs (by simp;omega);have out1:Gw 2 S.length w F1 D1 ((Scs.flat sc++qd (names.take i) bound.length).map yj) ov U1:=ei.out.other fun l o ho a b c hov=>a5 l o ho fun a' b' c' hh=>ei.df l a' b' c' hh a b c hov
    have nr1:=hnr.step a4;obtain ⟨hlen1,hrd1⟩:=nr1.rd;obtain ⟨p',hq1,hq2⟩:=hrd1 i hlt;obtain ⟨vb,vf,r0,_⟩:=Zh a3
    have hlb:lenS vb=some (.int .i64 (bound.length+(qd (names.take i) bound.length).length:Nat)):=by
     obtain ⟨vb2,vf2,h1,h2,_⟩:=a3.wx;unfold wkO at h1;have:vb=vb2:=by simpa[ldS,h1,h2.flat.1] using r0.symm
     rw[this,h2.flat.2.2.2];simp
    have hfe:fits 2 [yj (names[i],bound.length+(qd (names.take i) bound.length).length)]=true:=rfl;obtain ⟨ov',U2,b1,b2,b3,b4,b5,b6⟩:=out1.app1F fmi (bytes:=24) (b:=true) (y:=yj (names[i],bound.length+(qd (names.take i) bound.length).length)) a3 a4 hfe (by simp;omega);have dlt:=a2.lt;have olt:=ei.out.lt;have hlt0:=ei.had.lt
    have df1:JR hv' ov:=fun l a b c hh a' b' c' ho=>by
     rcases a6 l a b c hh with h1|h1
     ·exact ei.df l _ _ _ h1 a' b' c' ho
     ·have:=olt l a' b' c' ho;omega
    have had2:Gw 1 S.length w F1 D1 (((qd (names.take i) bound.length).map (·.1)).map .str++[.str names[i]]) hv' U2:=a2.other fun l o ho a b c hh=>b5 l o ho fun a' b' c' ho'=>df1 l a b c hh a' b' c' ho'
    have nr2:=hnr.step b4;obtain ⟨hlen2,hrd2⟩:=nr2.rd;obtain ⟨p2,hs1',hs2'⟩:=hrd2 i hlt;obtain ⟨wb,wf,wb',U3,F2,c1,c2,c3,c4,c5,c6,c7,c8,c9⟩:=b3.addB names[i] (by simp;omega) true
    have df2:JR hv' ov':=fun l a b c hh a' b' c' ho=>by
     rcases b6 l a' b' c' ho with h1|h1
     ·exact df1 l a b c hh _ _ _ h1
     ·have:=dlt l a b c hh;omega
    have hn1:bound++(qd (names.take (i+1)) bound.length).map (·.1)=bound++(qd (names.take i) bound.length).map (·.1)++[names[i]]:=by rw[hsn,qqe,qp4];rfl
    have hn2:((qd (names.take (i+1)) bound.length).map (·.1)).map V.str=((qd (names.take i) bound.length).map (·.1)).map .str++[.str names[i]]:=by rw[hsn,qqe,qqe];rfl
    have hn3:(Scs.flat sc++qd (names.take (i+1)) bound.length).map yj=(Scs.flat sc++qd (names.take i) bound.length).map yj++[yj (names[i],bound.length+(qd (names.take i) bound.length).length)]:=by rw[hsn,←qp4,qqe];rfl
    have c1':=c1;have c3':=c3;unfold wkO at c1' c3';have hbu:ql (.agg [.str ⟨⟨[]⟩⟩,.int .i64 0]) [(0,1,.str names[i]),(1,1,.int .i64 ((bound.length+(qd (names.take i) bound.length).length:Nat):Int))]=some (yj (names[i],bound.length+(qd (names.take i) bound.length).length)):=by simp[ql,qc,yj]
    have hwb:ldS U2 (.ptr w 0 0 1) none=some wb:=by
     have:wb.cells=wb.cells:=rfl;simp[ldS,c1']
    push_cast at hbu;simp[hp1,hp2,hfs,a1,zk,↓yz,hq1,hq2,r0,hlb,qh,hbu,hfe,b1];refine yq rfl rfl ?_;simp[zk,hwb,hs1',hs2',hfs,c2,stS,c3',qc,c4,c5,c6];refine yq rfl rfl ?_;simp[qO (n:=(i:Int)+1)];refine ⟨_,?_,_,?_,i+1,hv',ov',F2,D1,rfl,by omega,⟨by rw[hn1];exact c8,b4.trans c9,by rw[hn2];exact had2.step c9,by rw[hn3];exact b2.step c9,hnr.step (b4.trans c9),df2⟩,rfl⟩
    ·omega
    ·exact Env.so (by simp)
  ·have:i=names.length:=by omega
   subst this;simp[↓yz,hlen];exact ⟨hv,ov,F1,D1,ei,rfl⟩
 rintro e U ⟨hv,ov,F1,D1,ei,g8⟩;simp[g8];have h1:=ei.out;have h2:=ei.rk;rw[qqo] at h1 h2;have hnm:(qd names bound.length).map (·.1)=nms names:=by unfold nms;exact QN 0 names [] [] _ _ rfl
 rw[hnm] at h2;exact Yh (Rk.frm r bf bt w fv (bound++nms names) st) rfl h1 h2 ei.st (by rw[←qM,qhk];rfl)
structure RpOk(r:Rp):Prop where
 le:r.fro.length≤r.to.length
 small:r.to.length≤1000000
theorem qcj:∀(fs:List Bz) (es:List Ex) (x:Bz),(∀f,f∈fs→f≠x)→mtL fs es x=none
 | [],_,_,_=>by simp[mtL]
 | f::fs,[],_,_=>by simp[mtL]
 | f::fs,e::es,x,h=>by
  rw[mtL,if_neg (h f (List.mem_cons_self ..))];exact qcj fs es x fun g hg=>h g (qra _ hg)
theorem qcs:∀(fs:List Bz) (es:List Ex) (x:Bz) (i:Nat) (hi:i<fs.length) (hj:i<es.length),fs[i]=x→(∀j,(h:j<fs.length)→j<i→fs[j]≠x)→mtL fs es x=some es[i]
 | f::fs,e::es,x,0,_,_,h,_=>by rw[mtL,if_pos (by simpa using h)];rfl
 | f::fs,e::es,x,i+1,hi,hj,h,g=>by
  rw[mtL,if_neg (by have:=g 0 (by simp) (by omega);simpa using this)]
  exact qcs fs es x i (by simpa using hi) (by simpa using hj) (by simpa using h) fun j hj' hji=>by
   have:=g (j+1) (by simpa using hj') (by omega);simpa using this
theorem Rk.put6{r:Rp}{bf bt:Bool}{w:Nat}{fv:V}{bound:List Bz}{st:Rst}{F D:Np}{S:St}(h:Rk r bf bt w fv bound st F D S)(c:Bool):
  ∃U,stS S (.ptr w 0 6 1) 1 (.bool c)=some U∧Rk r bf bt w fv bound { st with caught:=c } F D U∧Stp w F D S F D U:=by
 obtain ⟨vb,vf,h1,h2,h3,h4,h5⟩:=h.flag st.bad c;refine ⟨_,?_,h4,h5⟩;obtain ⟨_,_,hw,g1,g2,_⟩:=h.wx;rw[hw] at h1;unfold wkO at hw h1 ⊢;simp only[Option.some.injEq,Ob.arr.injEq,List.cons.injEq,V.agg.injEq] at h1;obtain ⟨⟨⟨rfl,rfl,_⟩,_⟩,_⟩:=h1;simp[stS,hw,qc]
theorem Rk.put5{r:Rp}{bf bt:Bool}{w:Nat}{fv:V}{bound:List Bz}{st:Rst}{F D:Np}{S:St}(h:Rk r bf bt w fv bound st F D S)(c:Bool):
  ∃U,stS S (.ptr w 0 5 1) 1 (.bool c)=some U∧Rk r bf bt w fv bound { st with bad:=c } F D U∧Stp w F D S F D U:=by
 obtain ⟨vb,vf,h1,h2,h3,h4,h5⟩:=h.flag c st.caught;refine ⟨_,?_,h4,h5⟩;obtain ⟨_,_,hw,g1,g2,_⟩:=h.wx;rw[hw] at h1;unfold wkO at hw h1 ⊢;simp only[Option.some.injEq,Ob.arr.injEq,List.cons.injEq,V.agg.injEq] at h1;obtain ⟨⟨⟨rfl,rfl,_⟩,_⟩,_⟩:=h1;simp[stS,hw,qc]
abbrev exZ:V:=.agg [.int .i64 0,.int .i64 0,.int .i64 0,.int .i64 0,.int .i64 0,.str ⟨⟨[]⟩⟩,.sl true []]
theorem qc4:exZ.weak=Ex.z.v:=by simp only[exZ,V.weak,V.weakL,Ex.v_eq];rfl
theorem qce:V.part exZ 0 (some 7)=some exZ:=rfl
theorem YG(y:V)(h:y.size=7)(hf:y.cells.all V.flat=true):V.upd exZ 0 7 y=some y:=by unfold exZ;rw[qc];simp[h,hf]
def qif(r:Rp)(sc:Scs)(x:Bz):V:=.tup [.str (match rmt r sc x with|some _=>x|none=>yH r sc x),(match rmt r sc x with|some e=>e.v|none=>Ex.z.v),.bool (rmt r sc x).isSome]
def cgt(e:Ex)(sc:Scs)(k:Nat):Bool:=decide (e.kind=6) && ((Scs.flat sc).take k).any fun p=>decide (p.1=e.text)
theorem qim(e:Ex)(sc:Scs):cgt e sc 0=false:=by simp[cgt]
theorem qhE(e:Ex)(sc:Scs)(k:Nat)(h:k<(Scs.flat sc).length):cgt e sc (k+1)=(cgt e sc k || (decide (e.kind=6) && decide ((Scs.flat sc)[k].1=e.text))):=by
 unfold cgt;rw[qp9,qpZ h,qqx,List.any_append];simp only[List.any_cons,List.any_nil,Bool.or_false];cases decide (e.kind=6) <;> simp
theorem qhZ(e:Ex)(sc:Scs):cgt e sc (Scs.flat sc).length=(decide (e.kind=6) && (Scs.flat sc).any fun p=>decide (p.1=e.text)):=by
 unfold cgt;rw[qqo]
theorem qgB(r:Rp)(ho:RpOk r)(bf bt:Bool)(w:Nat)(fv:V)(bound:List Bz)(st:Rst)(F D:Np)(S:St)(hk:Rk r bf bt w fv bound st F D S)(b:Bool)(sc:Scs)(hd:ScD sc)(hl:(Scs.flat sc).length≤1000000)(x:Bz)(hfl:st.free.length≤1000000):
  qB prog 143 [.ptr w 0 0 1,.sl b ((Scs.flat sc).map yj),.str x] S (fun v U=>Rd' w (Rk r bf bt w fv bound (qbG r sc x st)) F D S (qif r sc x) v U):=by
 refine qB.ib func143 ok143 ?_;obtain ⟨S1,hS1⟩:∃S1:St,S1=S++[.arr [exZ] 7 1]:=⟨_,rfl⟩;have fm:=Rk.frm r bf bt w fv bound st;have k1:Rk r bf bt w fv bound st F D S1:=by rw[hS1];exact fm.push hk _
 have s1:Stp w F D S F D S1:=by rw[hS1];exact (Stp.refl _ _ _ _).push _
 have b1:S1[S.length]?=some (.arr [exZ] 7 1):=by rw[hS1];simp
 have o1:Off w F D S.length:=fm.out hk (qp0 _);have fin:∀(st':Rst) (F' D':Np) (U:St) (y:Bz) (ev:V) (z:Ex) (is:Bool) (e:Env),Rk r bf bt w fv bound st' F' D' U→Stp w F D S F' D' U→U[S.length]?=some (.arr [exZ] 7 1)→Off w F' D' S.length→ev.weak=z.v→
   V.part ev 0 (some 7)=some ev→e.get 6=some (.str y)→e.get 7=some (.ptr S.length 0 0 1)→e.get 8=some (.bool is)→
   Z4 [.t 6,.cell 7 (some 7),.t 8] S.length (fun v U=>Rd' w (Rk r bf bt w fv bound st') F D S (.tup [.str y,z.v,.bool is]) v U) .ret e (U.set S.length (.arr [ev] 7 1)):=fun st' F' D' U y ev z is e hk' hs' hb ho' hw hp g6 g7 g8=>by
  have hset:(U.set S.length (.arr [ev] 7 1))[S.length]?=some (.arr [ev] 7 1):=qpW (glt hb);refine ⟨[.str y,ev,.bool is],by simp[rvs,g6,g7,g8,ldS,hset,hp],_,_,zg.weak,?_,F',D',(Rk.frm r bf bt w fv bound st').set hk' _ ho',hs'.set _ (qp0 _)⟩;simp only[qo,V.weak,V.weakL,hw]
 have hru:qbG r sc x st=match sc.at x with
  | some _=>st
  | none=>{ free:=st.free++[x],bad:=st.bad,caught:=st.caught || (match mt r x with
   | some e=>decide (e.kind=6) && (Scs.flat sc).any fun p=>decide (p.1=e.text)
   | none=>false) }:=rfl
 have hrm:rmt r sc x=match sc.at x with
  | some _=>none
  | none=>mt r x:=rfl
 have hrr:yH r sc x=match sc.at x with
  | some k=>(r.fresh[k]?).getD x
  | none=>x:=rfl
 simp[c143];show qdx _ _ _ (S++[.arr [exZ] 7 1]) _;rw[←hS1];refine qj (qfK _ b x hl S1) ?_;unfold qmV;rw[qbI sc x hd]
 cases hat:sc.at x with
 | some k=>
  rw[hat] at hru hrm;simp only at hru hrm;have hu:qif r sc x=.tup [.str (yH r sc x),Ex.z.v,.bool false]:=by unfold qif;rw[hrm];rfl
  rw[hru,hu];have hk0:(0:Int)≤k:=by omega
  simp[hk0];refine qj (kM r bf bt w fv bound st F D S1 k1 b sc hd hl x) ?_;have hbu:ql exZ []=some exZ:=rfl;unfold exZ at hbu;simp[qh,hbu];have hst:stS S1 (.ptr S.length 0 0 1) 7 exZ=some (S1.set S.length (.arr [exZ] 7 1)):=by simp[stS,b1,YG exZ rfl rfl]
  unfold exZ at hst;simp[hst];exact fin st F D S1 (yH r sc x) exZ Ex.z false _ k1 s1 b1 o1 qc4 qce rfl rfl rfl
 | none=>
  rw[hat] at hru hrm hrr;simp only at hru hrm hrr;obtain ⟨vb,vf,vf',U1,F1,a1,a2,a3,a4,a5,a6,k2,s2⟩:=k1.addF x (by omega) true;have hfs:fits 1 [V.str x]=true:=rfl;obtain ⟨U2,hU2⟩:∃U2,U2=U1.set w (wkO r bf bt fv vb vf' st):=⟨_,rfl⟩;rw[←hU2] at k2 s2;have hlf:ldS S1 (.ptr w 0 1 1) none=some vf:=by unfold wkO at a1;simp[ldS,a1]
  have hst:stS U1 (.ptr w 0 1 1) 1 vf'=some U2:=by
   rw[hU2];unfold wkO at a3 ⊢;simp[stS,a3,qc,a4,a5,a6]
  have s3:=s1.trans s2;have b2:=s2.at o1 b1;have o2:=o1.next (glt b1) s2;simp[zk,hlf,hfs,a2,hst];refine qE (fun e U=>mt r x=none∧U=U2∧e.get 0=some (.ptr w 0 0 1)∧e.get 2=some (.str x)∧e.get 7=some (.ptr S.length 0 0 1)) ?_ ?_
  ·refine qq (fun j e U=>∃i:Nat,j=r.fro.length - i∧i≤r.fro.length∧(∀j,(h:j<r.fro.length)→j<i→r.fro[j]≠x)∧U=U2∧
    e=[(9,.int .i64 i),(0,.ptr w 0 0 1),(1,.sl b ((Scs.flat sc).map yj)),(2,.str x),(7,.ptr S.length 0 0 1)]) r.fro.length _ ?_ ⟨0,by simp,by omega,by omega,rfl,rfl⟩ ?_
   ·exact Env.so (by simp)
   rintro j e U ⟨i,rfl,hi,hno,rfl,rfl⟩;obtain ⟨_,_,r0,r1,r2,r3,r4,r5,r6⟩:=Zh k2;by_cases hlt:i<r.fro.length
   ·have hia:=Q4 hlt bf U;by_cases heq:r.fro[i]=x
    ·have hj:i<r.to.length:=by have:=ho.le;omega
     have hmt:mt r x=some r.to[i]:=qcs r.fro r.to x i hlt hj heq hno;have hu:qif r sc x=.tup [.str x,r.to[i].v,.bool true]:=by unfold qif;rw[hrm,hmt];rfl
     rw[hu,hru,hmt];rw[heq] at hia;simp[zk,r3,hlt,hia];obtain ⟨y,hy⟩:∃y,y=r.to[i]:=⟨_,rfl⟩;rw[←hy];refine qE (fun e U=>∃F' D',Rk r bf bt w fv bound { free:=st.free++[x],bad:=st.bad,caught:=st.caught || cgt y sc (Scs.flat sc).length } F' D' U∧Stp w F D S F' D' U∧U[S.length]?=some (.arr [exZ] 7 1)∧Off w F' D' S.length∧e.get 0=some (.ptr w 0 0 1)∧e.get 2=some (.str x)∧e.get 7=some (.ptr S.length 0 0 1)∧e.get 9=some (.int .i64 i)) ?_ ?_
     ·refine qq (fun j e U=>∃(k:Nat) (F' D':Np),j=(Scs.flat sc).length - k∧k≤(Scs.flat sc).length∧Rk r bf bt w fv bound { free:=st.free++[x],bad:=st.bad,caught:=st.caught || cgt y sc k } F' D' U∧Stp w F D S F' D' U∧U[S.length]?=some (.arr [exZ] 7 1)∧Off w F' D' S.length∧
       e=[(10,.int .i64 k),(9,.int .i64 i),(0,.ptr w 0 0 1),(1,.sl b ((Scs.flat sc).map yj)),(2,.str x),(7,.ptr S.length 0 0 1)]) (Scs.flat sc).length _ ?_ ⟨0,F1,D,by simp,by omega,by rw[qim,Bool.or_false];exact k2,s3,b2,o2,rfl⟩ ?_
      ·exact Env.so (by simp)
      rintro j e U ⟨k,F3,D3,rfl,hk',kU,sU,bU,oU,rfl⟩;obtain ⟨_,_,q0,q1,q2,q3,q4,q5,q6⟩:=Zh kU;by_cases hlk:k<(Scs.flat sc).length
      ·have hib:=qmg hlk b U;have hie:=qht hj bt U;rw[←hy] at hie;obtain ⟨U4,p1,p2,p3⟩:=kU.put6 (st.caught || cgt y sc (k+1));have hcs:=qhE y sc k hlk;have hbn:V.part (yj (Scs.flat sc)[k]) 0 none=some (.str (Scs.flat sc)[k].1):=rfl;have bU4:=p3.at oU bU;have oU4:=oU.next (glt bU) p3;simp only at q6
       cases hc:(st.caught || cgt y sc k) with
       | true=>
        have hc1:(st.caught || cgt y sc (k+1))=true:=by rw[hcs,←Bool.or_assoc,hc,Bool.true_or]
        rw[hc] at q6;rw[hc1] at p1;simp[hlk,zk,q6,p1];refine yq rfl rfl ?_;simp[qO (n:=(k:Int)+1)];refine ⟨_,?_,_,?_,k+1,rfl,by omega,F3,D3,p2,sU.trans p3,bU4,oU4,rfl⟩
        ·omega
        ·exact Env.so (by simp)
       | false=>
        rw[hc] at q6;have hc1:(st.caught || cgt y sc (k+1))=(decide (y.kind=6) && decide ((Scs.flat sc)[k].1=y.text)):=by rw[hcs,←Bool.or_assoc,hc,Bool.false_or]
        rw[hc1] at p1;by_cases h6:y.kind=6
        ·simp[h6] at p1;simp[hlk,zk,q6,q4,hie,hib,hbn,h6,p1];refine yq rfl rfl ?_;simp[qO (n:=(k:Int)+1)];refine ⟨_,?_,_,?_,k+1,rfl,by omega,F3,D3,p2,sU.trans p3,bU4,oU4,rfl⟩
         ·omega
         ·exact Env.so (by simp)
        ·simp[h6] at p1;simp[hlk,zk,q6,q4,hie,h6,p1];refine yq rfl rfl ?_;simp[qO (n:=(k:Int)+1)];refine ⟨_,?_,_,?_,k+1,rfl,by omega,F3,D3,p2,sU.trans p3,bU4,oU4,rfl⟩
         ·omega
         ·exact Env.so (by simp)
      ·have:k=(Scs.flat sc).length:=by omega
       subst this;simp;exact ⟨F3,D3,kU,sU,bU,oU⟩
     rintro e U ⟨F3,D3,kU,sU,bU,oU,g0,g2,g7,g9⟩;obtain ⟨_,_,q0,q1,q2,q3,q4,q5,q6⟩:=Zh kU;have hie:=qht hj bt U;rw[←hy] at hie;have hst2:stS U (.ptr S.length 0 0 1) 7 y.v=some (U.set S.length (.arr [y.v] 7 1)):=by simp[stS,bU,YG y.v (Ex.v_size y) (by simp)]
     simp[g0,g2,g7,g9,zk,q4,hie,hst2];refine yq rfl rfl ?_;rw[qhZ] at kU;simp;exact fin _ F3 D3 U x y.v y true _ kU sU bU oU (Ex.v_weak y) (kH y) rfl g7 rfl
    ·simp[zk,r3,hlt,hia,heq,qy (n:=(i:Int)+1) (by have:=ho.le;have:=ho.small;omega) (by have:=ho.le;have:=ho.small;omega)];refine ⟨_,?_,_,?_,i+1,rfl,by omega,fun j hj hji=>?_,rfl⟩
     ·omega
     ·exact Env.so (by simp)
     ·by_cases hj':j=i
      ·subst hj';exact heq
      ·exact hno j hj (by omega)
   ·simp[zk,r3,hlt];refine qcj _ _ _ fun f hf=>?_
    obtain ⟨j,hj,rfl⟩:=qqW hf;exact hno j hj (by omega)
  rintro e U ⟨hmt,rfl,g0,g2,g7⟩;have hu:qif r sc x=.tup [.str x,Ex.z.v,.bool false]:=by unfold qif;rw[hrm,hmt,hrr];rfl
  rw[hmt] at hru;simp only[Bool.or_false] at hru;rw[hu,hru];have hbu:ql exZ []=some exZ:=rfl;have hst2:stS U (.ptr S.length 0 0 1) 7 exZ=some (U.set S.length (.arr [exZ] 7 1)):=by simp[stS,b2,YG exZ rfl rfl]
  unfold exZ at hbu hst2;simp[g2,g7,qh,hbu,hst2];exact fin _ F1 D U x exZ Ex.z false _ k2 s3 b2 o2 qc4 qce rfl g7 rfl
theorem qcQ(r:Rp)(sc:Scs)(x:Bz)(st:Rst):(qbG r sc x st).free.length≤st.free.length+1:=by
 unfold qbG;cases sc.at x <;> simp
theorem QQ(r:Rp)(sc:Scs)(x:Bz)(st:Rst):(zN r sc x st).free.length≤st.free.length+1:=qcQ r sc x st
theorem Qc{α:Type}(f:α→Pa)(l:List α)(i:Nat)(h:i<l.length):qF ((l.take i).map f)+(f l[i]).size≤qF (l.map f):=by
 have h1:=qqE i l;rw[qqZ h] at h1;have h2:=congrArg (fun m=>qF (m.map f)) h1;simp only[qqe,qqd,zj,sizes_cons] at h2;omega
mutual
theorem Ex.rs_len(r:Rp)(sc:Scs):∀(x:Ex) (st:Rst),(x.rs r sc st).free.length≤st.free.length+(Pa.ex x).size
 | .mk k o n m e t a,st=>by
  have hsz:(Pa.ex (.mk k o n m e t a)).size=1+qF (a.map Pa.ex):=by rw[Pa.size_eq];rfl
  rw[Ex.rs];split
  ·have:=qcQ r sc t st;omega
  ·have h1:=Ex.rsl_len r sc a (if k=7∨k=8 then zN r sc t st else st)
   have h2:(if k=7∨k=8 then zN r sc t st else st).free.length≤st.free.length+1:=by
    split
    ·exact QQ r sc t st
    ·omega
   omega
theorem Ex.rsl_len(r:Rp)(sc:Scs):∀(l:List Ex) (st:Rst),(Ex.rsl r sc st l).free.length≤st.free.length+qF (l.map Pa.ex)
 | [],st=>by simp[Ex.rsl]
 | x::l,st=>by
  have h1:=Ex.rs_len r sc x st;have h2:=Ex.rsl_len r sc l (x.rs r sc st);simp only[Ex.rsl,qqd,sizes_cons];omega
end
theorem qgK(r:Rp)(ho:RpOk r)(bf bt:Bool)(w:Nat)(fv:V)(bound:List Bz)(st:Rst)(F D:Np)(S:St)(hk:Rk r bf bt w fv bound st F D S)(b:Bool)(sc:Scs)(hd:ScD sc)(hl:(Scs.flat sc).length≤1000000)(x:Bz)(hfl:st.free.length≤1000000):
  qB prog 144 [.ptr w 0 0 1,.sl b ((Scs.flat sc).map yj),.str x] S (fun v U=>Rd' w (Rk r bf bt w fv bound (zN r sc x st)) F D S (.str (yX r sc x)) v U):=by
 refine qB.ib func144 ok144 ?_;have hS:zN r sc x st={ qbG r sc x st with bad:=(qbG r sc x st).bad || (match rmt r sc x with|some e=>!decide (e.kind=6)|none=>false) }:=rfl;have hT:yX r sc x=match rmt r sc x with|some e=>if e.kind=6 then e.text else x|none=>yH r sc x:=rfl
 rw[hS,hT];simp[c144];refine qm (qgB r ho bf bt w fv bound st F D S hk b sc hd hl x hfl) ?_;rintro v U ⟨rfl,F1,D1,k1,s1⟩;generalize qbG r sc x st=st1 at k1 ⊢;unfold qif
 cases hm:rmt r sc x with
 | some e=>
  obtain ⟨U2,hU2⟩:∃U2,U2=U++[.arr [e.v] 7 1]:=⟨_,rfl⟩;have k2:Rk r bf bt w fv bound st1 F1 D1 U2:=by rw[hU2];exact (Rk.frm _ _ _ _ _ _ _).push k1 _
  have s2:Stp w F D S F1 D1 U2:=by rw[hU2];exact s1.push _
  have c2:U2[U.length]?=some (.arr [e.v] 7 1):=by rw[hU2];simp
  simp[qw,evX,stS,qc];rw[←hU2];by_cases h6:e.kind=6
  ·simp[ldS,c2,h6];exact qi rfl ⟨rfl,F1,D1,k2,s2⟩
  ·obtain ⟨_,_,q0,q1,q2,q3,q4,q5,q6⟩:=Zh k2;obtain ⟨U3,p1,p2,p3⟩:=k2.put5 true;have h0:ldS U2 (.ptr U.length 0 0 1) none=some (.int .i64 e.kind):=by simp[ldS,c2]
   have hb:(st1.bad || !decide (e.kind=6))=true:=by simp[h6]
   rw[hb]
   cases hbad:st1.bad with
   | true=>
    rw[hbad] at q5;simp[h0,h6,zk,q5,p1];exact qi rfl ⟨rfl,F1,D1,p2,s2.trans p3⟩
   | false=>
    rw[hbad] at q5;simp[h0,h6,zk,q5,p1];exact qi rfl ⟨rfl,F1,D1,p2,s2.trans p3⟩
 | none=>
  obtain ⟨U2,hU2⟩:∃U2,U2=U++[.arr [Ex.z.v] 7 1]:=⟨_,rfl⟩;have k2:Rk r bf bt w fv bound st1 F1 D1 U2:=by rw[hU2];exact (Rk.frm _ _ _ _ _ _ _).push k1 _
  have s2:Stp w F D S F1 D1 U2:=by rw[hU2];exact s1.push _
  simp[qw,evX,stS,qc];rw[←hU2];obtain ⟨_,_,q0,q1,q2,q3,q4,q5,q6⟩:=Zh k2;obtain ⟨U3,p1,p2,p3⟩:=k2.put5 st1.bad
  cases hbad:st1.bad with
  | true=>
   rw[hbad] at q5 p1 p2;simp[zk,q5,p1];exact qi rfl ⟨rfl,F1,D1,p2,s2.trans p3⟩
  | false=>
   rw[hbad] at q5 p1 p2;simp[zk,q5,p1];exact qi rfl ⟨rfl,F1,D1,p2,s2.trans p3⟩
def P92(r:Rp)(bf bt:Bool)(w:Nat)(fv:V)(x:Ex):Prop:=∀(bound:List Bz) (st:Rst) (F D:Np) (S:St) (b:Bool) (sc:Scs),Rk r bf bt w fv bound st F D S→ScD sc→(Scs.flat sc).length≤1000000→st.free.length+(Pa.ex x).size≤1000000→
 qB prog 92 [.ptr w 0 0 1,x.v,.sl b ((Scs.flat sc).map yj)] S (fun v U=>Rd' w (Rk r bf bt w fv bound (x.rs r sc st)) F D S (x.rw r sc).v v U)
theorem ju(r:Rp)(bf bt:Bool)(w:Nat)(fv:V)(l:List Ex)(H:∀x,x∈l→P92 r bf bt w fv x)(hl:l.length≤4000)(bound:List Bz)(st:Rst)(F D:Np)(S:St)(bl b:Bool)(sc:Scs)(hk:Rk r bf bt w fv bound st F D S)(hd:ScD sc)(hf:(Scs.flat sc).length≤1000000)(hs:st.free.length+qF (l.map Pa.ex)≤1000000):
  qB prog 145 [.ptr w 0 0 1,.sl bl (l.map Ex.v),.sl b ((Scs.flat sc).map yj)] S (fun v U=>Rd' w (Rk r bf bt w fv bound (Ex.rsl r sc st l)) F D S (.sl false ((Ex.rwl r sc l).map Ex.v)) v U):=by
 refine qB.ib func145 ok145 ?_;simp[c145];refine qE (WwF w 7 F D S (Rk r bf bt w fv bound (Ex.rsl r sc st l)) 7 ((Ex.rwl r sc l).map Ex.v)) ?_ ?_
 ·refine qq (LwF w 7 F D S l.length (fun i=>Rk r bf bt w fv bound (Ex.rsl r sc st (l.take i))) (fun i=>(Ex.rwl r sc (l.take i)).map Ex.v)
   (fun i gv=>[(8,.int .i64 i),(7,gv),(0,.ptr w 0 0 1),(1,.sl bl (l.map Ex.v)),(2,.sl b ((Scs.flat sc).map yj))])) l.length _ ?_ ⟨0,_,F,D,by simp,by omega,Gw.nil _ _ _ _ _ _,hk,Stp.refl _ _ _ _,rfl⟩ ?_
  ·exact Env.so (by simp)
  rintro j e U ⟨i,gv,F1,D1,rfl,hi,hg,hk1,hs1,rfl⟩;dsimp only at hg hk1;by_cases hlt:i<l.length
  ·have hst:=Qc Pa.ex l i hlt;have hrl:=Ex.rsl_len r sc (l.take i) st;simp[hlt,qht];refine qm (H l[i] (qp5 hlt) bound _ F1 D1 U b sc hk1 hd hf (by omega)) ?_;rintro v U2 ⟨rfl,F2,D2,hk2,hs2⟩;have hg2:=hg.step hs2;have hs3:=hs1.trans hs2;obtain ⟨v',U3,ha,hg3,hk3,hs4,_⟩:=hg2.app1F (Rk.frm r bf bt w fv bound _) (bytes:=80) (b:=true) hk2 hs3 (Ex.fits1 (l[i].rw r sc)) (by rw[qp2,Ex.rwl_map,qp2,qqR];omega)
   have hn:(Ex.rwl r sc (l.take i)).map Ex.v++[(l[i].rw r sc).v]=(Ex.rwl r sc (l.take (i+1))).map Ex.v:=by
    rw[Ex.rwl_map,Ex.rwl_map,qp9,qpZ hlt,qqx,qqe,qqe];rfl
   have hn2:Ex.rs r sc (Ex.rsl r sc st (l.take i)) l[i]=Ex.rsl r sc st (l.take (i+1)):=by
    rw[qp9,qpZ hlt,qqx,Ex.rsl_append];rfl
   rw[hn] at hg3;rw[hn2] at hk3;simp[Ex.fits1,ha,qO (n:=(i:Int)+1)];refine ⟨_,?_,_,?_,i+1,v',F2,D2,rfl,by omega,hg3,hk3,hs4,rfl⟩
   ·omega
   ·exact Env.so (by simp)
  ·have:i=l.length:=by omega
   subst this;simp only[qqo] at hg hk1;simp;exact ⟨gv,F1,D1,rfl,hg,hk1,hs1⟩
 rintro e U ⟨gv,F1,D1,g9,hg,hk1,hs1⟩;simp[g9];exact Yh (Rk.frm _ _ _ _ _ _ _) rfl hg hk1 hs1 (by rw[←qM,wEx])
theorem Ex.rs_eq(r:Rp)(sc:Scs)(st:Rst)(x:Ex):x.rs r sc st=if x.kind=6 then qbG r sc x.text st else Ex.rsl r sc (if x.kind=7∨x.kind=8 then zN r sc x.text st else st) x.args:=by cases x;rw[Ex.rs];rfl
theorem Ex.rw_eq(r:Rp)(sc:Scs)(x:Ex):x.rw r sc=if x.kind=6 then (match rmt r sc x.text with
  | some y=>y
  | none=>.mk 6 0 0 0 0 (yH r sc x.text) [])
 else .mk x.kind x.op x.n x.man x.exp (if x.kind=7∨x.kind=8 then yX r sc x.text else x.text) (Ex.rwl r sc x.args):=by cases x;rw[Ex.rw];rfl
def qaM(t:Bz):V:=.agg [.int .i64 6,.int .i64 0,.int .i64 0,.int .i64 0,.int .i64 0,.str t,.sl true []]
theorem qd1(t:Bz):ql exZ [(0,1,.int .i64 6),(5,1,.str t)]=some (qaM t):=by
 unfold qaM;simp[ql,qc]
theorem qfJ(t:Bz):(qaM t).weak=(Ex.mk 6 0 0 0 0 t []).v:=by
 simp only[qaM,V.weak,V.weakL,Ex.v_eq];rfl
theorem qjl(r:Rp)(ho:RpOk r)(bf bt:Bool)(w:Nat)(fv:V):∀(m:Nat) (x:Ex),(Pa.ex x).size≤m→m≤4000→P92 r bf bt w fv x
 | 0,x,hx,_=>by have:=(Pa.ex x).size_pos;omega
 | m+1,x,hx,hm=>by
  intro bound st F D S b sc hk hd hf hfr;have hsz:(Pa.ex x).size=1+qF (x.args.map Pa.ex):=by rw[Pa.size_eq];rfl
  have hl:x.args.length≤4000:=by have:=qT (x.args.map Pa.ex);rw[qp2] at this;omega
  have IH:∀y,y∈x.args→P92 r bf bt w fv y:=fun y hy=>qjl r ho bf bt w fv m y (by
   obtain ⟨i,hi⟩:=qqw (qqz (f:=Pa.ex) hy);have:=zb hi;omega) (by omega)
  refine qB.ib func92 ok92 ?_;obtain ⟨S1,hS1⟩:∃S1:St,S1=S++[.arr [x.v] 7 1,.arr [exZ] 7 1]:=⟨_,rfl⟩;have b0:S1[S.length]?=some (.arr [x.v] 7 1):=by rw[hS1,qpV (by omega)];simp
  have b1:S1[S.length+1]?=some (.arr [exZ] 7 1):=by rw[hS1,qpV (by omega)];simp
  have l1:S1.length=S.length+2:=by rw[hS1];simp
  have fm:=fun bo s=>Rk.frm r bf bt w fv bo s
  have k1:Rk r bf bt w fv bound st F D S1:=by rw[hS1];exact (fm _ _).push hk _
  have s1:Stp w F D S F D S1:=by rw[hS1];exact (Stp.refl _ _ _ _).push _
  have o0:Off w F D S.length:=(fm _ _).out hk (qp0 _);have o1:Off w F D (S.length+1):=(fm _ _).out hk (by omega);have h0:ldS S1 (.ptr S.length 0 0 1) none=some (.int .i64 x.kind):=by simp[ldS,b0]
  have h5:ldS S1 (.ptr S.length 0 5 1) none=some (.str x.text):=by simp[ldS,b0]
  rw[Ex.rs_eq,Ex.rw_eq];have fin:∀(st':Rst) (F' D':Np) (U:St) (z:Ex) (o:V) (e:Env),Rk r bf bt w fv bound st' F' D' U→Stp w F D S F' D' U→U[S.length+1]?=some (.arr [exZ] 7 1)→Off w F' D' (S.length+1)→o.weak=z.v→V.part o 0 (some 7)=some o→e.get 6=some (.ptr (S.length+1) 0 0 1)→
    Z4 [.cell 6 (some 7)] S.length (fun v U=>Rd' w (Rk r bf bt w fv bound st') F D S z.v v U) .ret e (U.set (S.length+1) (.arr [o] 7 1)):=fun st' F' D' U z o e hk' hs' hb ho' hw hp g6=>by
   have hset:(U.set (S.length+1) (.arr [o] 7 1))[S.length+1]?=some (.arr [o] 7 1):=qpW (glt hb);refine ⟨[o],by simp[rvs,g6,ldS,hset,hp],_,_,zg.weak,?_,F',D',(fm _ _).set hk' _ ho',hs'.set _ (by omega)⟩;simp only[qo,hw]
  simp[c92,qw];rw[←hS1];by_cases h6:x.kind=6
  ·rw[if_pos h6,if_pos h6];simp[h0,h5,h6];refine qm (qgB r ho bf bt w fv bound st F D S1 k1 b sc hd hf x.text (by omega)) ?_;rintro v U ⟨rfl,F1,D1,k2,s2⟩;have c1:=s2.at o1 b1;have p1:=o1.next (glt b1) s2;have s2':=s1.trans s2;unfold qif
   cases hmt:rmt r sc x.text with
   | some y=>
    obtain ⟨U2,hU2⟩:∃U2,U2=U++[.arr [y.v] 7 1]:=⟨_,rfl⟩;have k3:=(fm _ _).push k2 [.arr [y.v] 7 1];have s3:=s2'.push [.arr [y.v] 7 1];have d1:U2[S.length+1]?=some (.arr [exZ] 7 1):=by rw[hU2];exact gp c1
    have c2:U2[U.length]?=some (.arr [y.v] 7 1):=by rw[hU2];simp
    rw[←hU2] at k3 s3;have hst:stS U2 (.ptr (S.length+1) 0 0 1) 7 y.v=some (U2.set (S.length+1) (.arr [y.v] 7 1)):=by simp[stS,d1,YG y.v (Ex.v_size y) (by simp)]
    have hld:ldS U2 (.ptr U.length 0 0 1) (some 7)=some y.v:=by simp[ldS,c2]
    simp[qw,evX,stS,qc];rw[←hU2];simp[hld,hst];exact fin _ F1 D1 U2 y y.v _ k3 s3 d1 p1 (Ex.v_weak y) (kH y) rfl
   | none=>
    obtain ⟨U2,hU2⟩:∃U2,U2=U++[.arr [Ex.z.v] 7 1]:=⟨_,rfl⟩;have k3:=(fm _ _).push k2 [.arr [Ex.z.v] 7 1];have s3:=s2'.push [.arr [Ex.z.v] 7 1];have d1:U2[S.length+1]?=some (.arr [exZ] 7 1):=by rw[hU2];exact gp c1
    rw[←hU2] at k3 s3;have hbu:=qd1 (yH r sc x.text);have hst:stS U2 (.ptr (S.length+1) 0 0 1) 7 (qaM (yH r sc x.text))=some (U2.set (S.length+1) (.arr [qaM (yH r sc x.text)] 7 1)):=by simp[stS,d1,YG (qaM (yH r sc x.text)) rfl rfl]
    simp[qw,evX,stS,qc];rw[←hU2];simp[qh,hbu];simp[hst];exact fin _ F1 D1 U2 _ (qaM (yH r sc x.text)) _ k3 s3 d1 p1 (qfJ _) rfl rfl
  ·rw[if_neg h6,if_neg h6];obtain ⟨S2,hS2⟩:∃S2:St,S2=S1++[.arr [x.v] 7 1]:=⟨_,rfl⟩;have k2:Rk r bf bt w fv bound st F D S2:=by rw[hS2];exact (fm _ _).push k1 _
   have s2:Stp w F D S F D S2:=by rw[hS2];exact s1.push _
   have d0:S2[S.length]?=some (.arr [x.v] 7 1):=by rw[hS2];exact gp b0
   have d1:S2[S.length+1]?=some (.arr [exZ] 7 1):=by rw[hS2];exact gp b1
   have d2:S2[S.length+2]?=some (.arr [x.v] 7 1):=by rw[hS2,qpV (by omega)];simp[l1]
   have o2:Off w F D (S.length+2):=(fm _ _).out hk (by omega);have hld:ldS S1 (.ptr S.length 0 0 1) (some 7)=some x.v:=by simp[ldS,b0]
   have rest:∀(st':Rst) (F' D':Np) (U:St) (y:Ex),y.kind=x.kind→y.op=x.op→y.n=x.n→y.man=x.man→y.exp=x.exp→st'.free.length≤st.free.length+1→Rk r bf bt w fv bound st' F' D' U→Stp w F D S F' D' U→U[S.length+1]?=some (.arr [exZ] 7 1)→U[S.length+2]?=some (.arr [y.v] 7 1)→
     Off w F' D' (S.length+1)→Off w F' D' (S.length+2)→∀(Φ:V→St→Prop),(∀(U2 U3 U4:St) (z:Ex),stS U2 (.ptr (S.length+2) 0 6 1) 1 (.sl false ((Ex.rwl r sc x.args).map Ex.v))=some U3→ldS U3 (.ptr (S.length+2) 0 0 1) (some 7)=some z.v→stS U3 (.ptr (S.length+1) 0 0 1) 7 z.v=some U4→
      (∀e:Env,e.get 6=some (.ptr (S.length+1) 0 0 1)→Z4 [.cell 6 (some 7)] S.length (fun v U=>Rd' w (Rk r bf bt w fv bound (Ex.rsl r sc st' x.args)) F D S (Ex.mk x.kind x.op x.n x.man x.exp y.text (Ex.rwl r sc x.args)).v v U) .ret e U4)→Φ (.sl false ((Ex.rwl r sc x.args).map Ex.v)) U2)→
     qdx prog 145 [.ptr w 0 0 1,.sl false (x.args.map Ex.v),.sl b ((Scs.flat sc).map yj)] U Φ:=by
    intro st' F' D' U y y1 y2 y3 y4 y5 hfr' kU sU e1 e2 po1 po2 Φ hΦ;refine qm (ju r bf bt w fv x.args IH hl bound st' F' D' U false b sc kU hd hf (by omega)) ?_;rintro v U2 ⟨rfl,F2,D2,k3,s3⟩;have f1:=s3.at po1 e1;have f2:=s3.at po2 e2;have po1':=po1.next (glt e1) s3;have po2':=po2.next (glt e2) s3;obtain ⟨z,hz⟩:∃z:Ex,z=.mk x.kind x.op x.n x.man x.exp y.text (Ex.rwl r sc x.args):=⟨_,rfl⟩
    have hst:stS U2 (.ptr (S.length+2) 0 6 1) 1 (.sl false ((Ex.rwl r sc x.args).map Ex.v))=some (U2.set (S.length+2) (.arr [z.v] 7 1)):=by
     simp[stS,f2,qbc,qc,y1,y2,y3,y4,y5,hz];rw[Ex.v_eq];rfl
    have hld2:ldS (U2.set (S.length+2) (.arr [z.v] 7 1)) (.ptr (S.length+2) 0 0 1) (some 7)=some z.v:=by
     have:(U2.set (S.length+2) (.arr [z.v] 7 1))[S.length+2]?=some (.arr [z.v] 7 1):=qpW (glt f2);simp[ldS,this]
    have e1':(U2.set (S.length+2) (.arr [z.v] 7 1))[S.length+1]?=some (.arr [exZ] 7 1):=by rw[qpX (by omega)];exact f1
    have hst2:stS (U2.set (S.length+2) (.arr [z.v] 7 1)) (.ptr (S.length+1) 0 0 1) 7 z.v=some ((U2.set (S.length+2) (.arr [z.v] 7 1)).set (S.length+1) (.arr [z.v] 7 1)):=by simp[stS,e1',YG z.v (Ex.v_size z) (by simp)]
    refine hΦ _ _ _ z hst hld2 hst2 fun e g6=>?_
    rw[←hz];exact fin _ F2 D2 _ z z.v _ ((fm _ _).set k3 _ po2') ((sU.trans s3).set _ (by omega)) e1' po1' (Ex.v_weak z) (kH z) g6
   simp[h0,h6,hld,qw,evX,stS,qc];rw[←hS2];have h0':ldS S2 (.ptr S.length 0 0 1) none=some (.int .i64 x.kind):=by simp[ldS,d0]
   have h5':ldS S2 (.ptr S.length 0 5 1) none=some (.str x.text):=by simp[ldS,d0]
   have h6':ldS S2 (.ptr S.length 0 6 1) none=some (.sl false (x.args.map Ex.v)):=by simp[ldS,d0]
   by_cases h78:x.kind=7∨x.kind=8
   ·rw[if_pos h78,if_pos h78];have q:=qgK r ho bf bt w fv bound st F D S2 k2 b sc hd hf x.text (by omega)
    have hc:decide (x.kind=7)=true∨(decide (x.kind=7)=false∧decide (x.kind=8)=true):=by
     by_cases h7:x.kind=7
     ·exact .inl (by simp[h7])
     ·exact .inr ⟨by simp[h7],by simp[h78.resolve_left h7]⟩
    rcases hc with hc|⟨hc,hc2⟩
    all_goals
     simp only[decide_eq_true_eq,decide_eq_false_iff_not] at hc
     try simp only[decide_eq_true_eq] at hc2
     first
      | simp[h0',h5',hc,hc2,l1]
      | simp[h0',h5',hc,l1]
     refine qm q ?_
     rintro v U ⟨rfl,F1,D1,k3,s3⟩
     have e0:=s3.at o0 d0
     have e1:=s3.at o1 d1
     have e2:=s3.at o2 d2
     have po0:=o0.next (glt d0) s3
     have po1:=o1.next (glt d1) s3
     have po2:=o2.next (glt d2) s3
     obtain ⟨y,hy⟩:∃y:Ex,y=.mk x.kind x.op x.n x.man x.exp (yX r sc x.text) x.args:=⟨_,rfl⟩
     have hst:stS U (.ptr (S.length+2) 0 5 1) 1 (.str (yX r sc x.text))=some (U.set (S.length+2) (.arr [y.v] 7 1)):=by
      simp[stS,e2,qbc,qc,hy];rw[Ex.v_eq];rfl
     have e0':(U.set (S.length+2) (.arr [y.v] 7 1))[S.length]?=some (.arr [x.v] 7 1):=by rw[qpX (by omega)];exact e0
     have e1':(U.set (S.length+2) (.arr [y.v] 7 1))[S.length+1]?=some (.arr [exZ] 7 1):=by rw[qpX (by omega)];exact e1
     have e2':(U.set (S.length+2) (.arr [y.v] 7 1))[S.length+2]?=some (.arr [y.v] 7 1):=qpW (glt e2)
     have k4:=(fm _ _).set k3 (.arr [y.v] 7 1) po2
     have s4:=(s2.trans s3).set (l:=S.length+2) (.arr [y.v] 7 1) (by omega)
     have ha:ldS (U.set (S.length+2) (.arr [y.v] 7 1)) (.ptr S.length 0 6 1) none=some (.sl false (x.args.map Ex.v)):=by simp[ldS,e0']
     simp[hst,ha]
     have hr:=QQ r sc x.text st
     refine rest _ F1 D1 _ y (by rw[hy];rfl) (by rw[hy];rfl) (by rw[hy];rfl) (by rw[hy];rfl) (by rw[hy];rfl) hr k4 s4 e1' e2' po1 po2 _ ?_
     intro U2 U3 U4 z a1 a2 a3 a4
     have hyt:y.text=yX r sc x.text:=by rw[hy];rfl
     rw[hyt] at a4
     simp[a1,a2,a3]
     first
      | exact a4 _ rfl
      | (simp only[hc2] at a4;exact a4 _ rfl)
      | (simp only[hc] at a4;exact a4 _ rfl)
   ·rw[if_neg h78,if_neg h78];have h7:x.kind≠7:=fun hh=>h78 (.inl hh)
    have h8:x.kind≠8:=fun hh=>h78 (.inr hh)
    simp[h0',h7,h8,h6'];refine rest st F D S2 x rfl rfl rfl rfl rfl (by omega) k2 s2 d1 d2 o1 o2 _ ?_;intro U2 U3 U4 z a1 a2 a3 a4;simp[l1,a1,a2,a3];exact a4 _ rfl
theorem qeu(l:List Ex)(i:Nat)(h:i<l.length):Jn (l.take (i+1))=(Jn (l.take i) || (decide (l[i].kind≠6) && decide (l[i].kind≠7))):=by
 unfold Jn;rw[qp9,qpZ h,qqx,List.any_append];simp
theorem jd(r:Rp)(ho:RpOk r)(bf bt:Bool)(w:Nat)(fv:V)(l:List Ex)(hl:qF (l.map Pa.ex)≤4000)(bound:List Bz)(st:Rst)(F D:Np)(S:St)(bl b:Bool)(sc:Scs)(hk:Rk r bf bt w fv bound st F D S)(hd:ScD sc)(hf:(Scs.flat sc).length≤1000000)(hs:st.free.length+qF (l.map Pa.ex)≤1000000):
  qB prog 145 [.ptr w 0 0 1,.sl bl (l.map Ex.v),.sl b ((Scs.flat sc).map yj)] S (fun v U=>Rd' w (Rk r bf bt w fv bound (Ex.rsl r sc st l)) F D S (.sl false ((Ex.rwl r sc l).map Ex.v)) v U):=
 ju r bf bt w fv l (fun x hx=>qjl r ho bf bt w fv 4000 x (by
  obtain ⟨i,hi⟩:=qqw (qqz (f:=Pa.ex) hx);have:=zb hi;omega) (qp0 _)) (by have:=qT (l.map Pa.ex);rw[qp2] at this;omega) bound st F D S bl b sc hk hd hf hs
theorem qlH(r:Rp)(ho:RpOk r)(bf bt:Bool)(w:Nat)(fv:V)(l:List Ex)(hl:qF (l.map Pa.ex)≤4000)(bound:List Bz)(st:Rst)(F D:Np)(S:St)(bl b:Bool)(sc:Scs)(hk:Rk r bf bt w fv bound st F D S)(hd:ScD sc)(hf:(Scs.flat sc).length≤1000000)(hs:st.free.length+qF (l.map Pa.ex)≤1000000):
  qB prog 231 [.ptr w 0 0 1,.sl bl (l.map Ex.v),.sl b ((Scs.flat sc).map yj)] S (fun v U=>Rd' w (Rk r bf bt w fv bound (tgS r sc st l)) F D S (.sl false ((Ex.rwl r sc l).map Ex.v)) v U):=by
 refine qB.ib func231 ok231 ?_;have hll:l.length≤4000:=by have:=qT (l.map Pa.ex);rw[qp2] at this;omega
 simp[c231];refine qm (jd r ho bf bt w fv l hl bound st F D S bl b sc hk hd hf hs) ?_;rintro v U ⟨rfl,F1,D1,k1,s1⟩;have hT:tgS r sc st l={ Ex.rsl r sc st l with bad:=(Ex.rsl r sc st l).bad || Jn (Ex.rwl r sc l) }:=rfl;rw[hT];obtain ⟨st1,hst1⟩:∃st1,st1=Ex.rsl r sc st l:=⟨_,rfl⟩;obtain ⟨o,ho'⟩:∃o,o=Ex.rwl r sc l:=⟨_,rfl⟩;have hol:o.length=l.length:=by rw[ho',Ex.rwl_map,qp2]
 rw[←hst1] at k1 ⊢;rw[←ho'];simp;refine qE (fun e U=>Rk r bf bt w fv bound { st1 with bad:=st1.bad || Jn o } F1 D1 U∧Stp w F D S F1 D1 U∧e.get 7=some (.sl false (o.map Ex.v))) ?_ ?_
 ·refine qq (fun j e U=>∃i:Nat,j=o.length - i∧i≤o.length∧Rk r bf bt w fv bound { st1 with bad:=st1.bad || Jn (o.take i) } F1 D1 U∧Stp w F D S F1 D1 U∧
   e=[(8,.int .i64 i),(7,.sl false (o.map Ex.v)),(0,.ptr w 0 0 1)]) o.length _ ?_ ⟨0,by simp,by omega,by simpa[Jn] using k1,s1,rfl⟩ ?_
  ·exact Env.so (by simp)
  rintro j e U ⟨i,rfl,hi,hk1,hs1,rfl⟩;by_cases hlt:i<o.length
  ·have hia:=qht hlt false U;obtain ⟨_,_,q0,q1,q2,q3,q4,q5,q6⟩:=Zh hk1;obtain ⟨U2,p1,p2,p3⟩:=hk1.put5 (st1.bad || Jn (o.take (i+1)));have ht:=qeu o i hlt;simp only at q5
   cases hb:st1.bad || Jn (o.take i) with
   | true=>
    have hb1:(st1.bad || Jn (o.take (i+1)))=true:=by rw[ht,←Bool.or_assoc,hb,Bool.true_or]
    rw[hb] at q5;rw[hb1] at p1;simp[hlt,zk,q5,p1,qO (n:=(i:Int)+1)];refine ⟨_,?_,_,?_,i+1,rfl,by omega,p2,hs1.trans p3,rfl⟩
    ·omega
    ·exact Env.so (by simp)
   | false=>
    have hb1:(st1.bad || Jn (o.take (i+1)))=(decide (o[i].kind≠6) && decide (o[i].kind≠7)):=by rw[ht,←Bool.or_assoc,hb,Bool.false_or]
    rw[hb] at q5;rw[hb1] at p1;by_cases h6:o[i].kind=6
    ·simp[h6] at p1;simp[hlt,zk,q5,hia,h6,p1,qO (n:=(i:Int)+1)];refine ⟨_,?_,_,?_,i+1,rfl,by omega,p2,hs1.trans p3,rfl⟩
     ·omega
     ·exact Env.so (by simp)
    ·simp[h6] at p1;simp[hlt,zk,q5,hia,h6,p1,qO (n:=(i:Int)+1)];refine ⟨_,?_,_,?_,i+1,rfl,by omega,p2,hs1.trans p3,rfl⟩
     ·omega
     ·exact Env.so (by simp)
  ·have:i=o.length:=by omega
   subst this;rw[qqo] at hk1;simp;exact ⟨hk1,hs1⟩
 rintro e U ⟨hk1,hs1,g7⟩;simp[g7];exact qi rfl ⟨by rw[ho'];rfl,F1,D1,hk1,hs1⟩
end Go.Proofs.YtbifpocccfkhhaaGreatDoor
end
