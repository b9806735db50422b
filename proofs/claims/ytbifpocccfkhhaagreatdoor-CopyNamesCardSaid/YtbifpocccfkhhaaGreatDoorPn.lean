/- Part of the proof. -/
import Derived.Test.YtbifpocccfkhhaaGreatDoorPm
set_option linter.all false
noncomputable section
namespace Go.Proofs.YtbifpocccfkhhaaGreatDoor
open Go
structure Frm(w:Nat)(P:(Nat→Prop)→(Nat→Prop)→St→Prop):Prop where
 push:∀{F D S},P F D S→∀os,P F D (S++os)
 set:∀{F D S},P F D S→∀{l} (o:Ob),Off w F D l→P F D (S.set l o)
 out:∀{F D S},P F D S→∀{l},S.length≤l→Off w F D l
theorem Gw.appF{w:Nat}{P:(Nat→Prop)→(Nat→Prop)→St→Prop}(fm:Frm w P){sz bytes:Nat}{F0 D0 F D:Nat→Prop}{xs ys:List V}{v x:V}{S0 S:St}(h:Gw sz S0.length w F D xs v S)(k:P F D S)(s:Stp w F0 D0 S0 F D S)(hx:elems S x=some ys)(hy:fits sz ys=true)(hr:(xs.length+ys.length) * bytes≤2 ^ 47):
  ∃v' S',appS S sz bytes v x=some (v',S')∧Gw sz S0.length w F D (xs++ys) v' S'∧P F D S'∧Stp w F0 D0 S0 F D S'∧(∀l o,S[l]?=some o→(∀a b c,v≠.arr l a b c)→S'[l]?=some o)∧(∀l a b c,v'=.arr l a b c→v=.arr l 0 xs.length xs.length∨l=S.length):=by
 have hlen:=s.k.len;rcases h with ⟨rfl,rfl⟩|⟨l,wr,h1,h2,rfl,h3,h4⟩
 ·cases ys with
  | nil=>
   refine ⟨.sl true [],S,?_,.inl ⟨rfl,rfl⟩,k,s,fun _ _ h _=>h,fun l a b c hh=>by cases hh⟩;unfold appS;rw[hx];rfl
  | cons y ys=>
   refine ⟨.arr S.length 0 (y::ys).length (y::ys).length,S++[.arr (y::ys) sz (y::ys).length],?_,.inr ⟨S.length,(y::ys).length,hlen,fm.out k (qtJ _),by simp,by simp,by simp⟩,fm.push k _,s.push _,fun l o h _=>gp h,fun l a b c hh=>by cases hh;exact .inr rfl⟩;unfold appS;rw[hx];have hc:true=true∧fits sz (y::ys)=true∧(([]:List V).all fun v=>v.size==sz)=true∧(([]:List V).length+(y::ys).length) * bytes≤2 ^ 47:=⟨rfl,hy,rfl,hr⟩;show (if (y::ys).isEmpty=true then _ else _)=_;rw[if_neg (by simp),if_pos hc];simp
 ·have hc:0=0∧xs.length=xs.length∧xs.length=xs.length∧sz=sz∧fits sz ys=true∧(xs.length+ys.length) * bytes≤2 ^ 47:=⟨rfl,rfl,rfl,rfl,hy,hr⟩;have hlt:l<S.length:=(qtD.1 h3).1;refine ⟨.arr l 0 (xs.length+ys.length) (xs.length+ys.length),S.set l (.arr (xs++ys) sz wr),?_,.inr ⟨l,wr,h1,h2,by simp,by rw[qtI hlt],by simp;omega⟩,fm.set k _ h2,s.set _ h1,fun k o ho hne=>?_,fun l' a b c hh=>by cases hh;exact .inl rfl⟩
  ·unfold appS;rw[hx];show (match S[l]? with|_=>_)=_;rw[h3];show (if _ then _ else _)=_;rw[if_pos hc]
  ·rw[qtH (by rintro rfl;exact hne _ _ _ rfl)];exact ho
theorem Gw.app1F{w:Nat}{P:(Nat→Prop)→(Nat→Prop)→St→Prop}(fm:Frm w P){sz bytes:Nat}{F0 D0 F D:Nat→Prop}{xs:List V}{y v:V}{S0 S:St}{b:Bool}(h:Gw sz S0.length w F D xs v S)(k:P F D S)(s:Stp w F0 D0 S0 F D S)(hy:fits sz [y]=true)(hr:(xs.length+1) * bytes≤2 ^ 47):
  ∃v' S',appS S sz bytes v (.sl b [y])=some (v',S')∧Gw sz S0.length w F D (xs++[y]) v' S'∧P F D S'∧Stp w F0 D0 S0 F D S'∧(∀l o,S[l]?=some o→(∀a b c,v≠.arr l a b c)→S'[l]?=some o)∧(∀l a b c,v'=.arr l a b c→v=.arr l 0 xs.length xs.length∨l=S.length):=
 h.appF fm k s (qb7 S b [y]) hy hr
theorem Gw.finF{w:Nat}{P:(Nat→Prop)→(Nat→Prop)→St→Prop}(fm:Frm w P){sz:Nat}{F0 D0 F D:Nat→Prop}{xs:List V}{v:V}{S0 U:St}(h:Gw sz S0.length w F D xs v U)(k:P F D U)(s:Stp w F0 D0 S0 F D U):
  ∃U',qaW S0.length v U (.sl false (xs.map V.weak)) U'∧P F D U'∧Stp w F0 D0 S0 F D U':=by
 rcases h with ⟨rfl,rfl⟩|⟨l,wr,h1,h2,rfl,h3,h4⟩
 ·exact ⟨U,qaW.weak (r:=.sl true []),k,s⟩
 ·have g1:=qaW.freeze (n:=S0.length) (l:=l) (off:=0) (len:=xs.length) (st:=xs.length) h3 h4 (by omega);simp only[List.drop_zero,qt5] at g1;have g2:qaW S0.length (.sl false xs) (U.set l .dead) (V.sl false xs).weak (U.set l .dead):=qaW.weak;simp only[V.weak,qaI] at g2;exact ⟨_,g1.trans g2,fm.set k _ h2,s.set _ h1⟩
def Rd'(w:Nat)(P':(Nat→Prop)→(Nat→Prop)→St→Prop)(F D:Nat→Prop)(S:St)(x:V)(r:V)(U:St):Prop:=r=x∧∃F' D',P' F' D' U∧Stp w F D S F' D' U
theorem qdZ{w:Nat}{P:(Nat→Prop)→(Nat→Prop)→St→Prop}(fm:Frm w P){sz:Nat}{F0 D0 F D:Nat→Prop}{xs:List V}{v:V}{S0 U:St}{rs:List RV}{e:Env}(hv:rvs e U rs=some [v])(h:Gw sz S0.length w F D xs v U)(k:P F D U)(s:Stp w F0 D0 S0 F D U){ys:List V}(hx:xs.map V.weak=ys):
  endp rs S0.length (fun r U=>Rd' w P F0 D0 S0 (.sl false ys) r U) .ret e U:=by
 obtain ⟨U',g,k',s'⟩:=h.finF fm k s;exact ⟨_,hv,_,U',g,by rw[hx],F,D,k',s'⟩
def LwF(w sz:Nat)(F D:Nat→Prop)(S:St)(len:Nat)(P:Nat→(Nat→Prop)→(Nat→Prop)→St→Prop)(xs:Nat→List V)(env:Nat→V→Env)(j:Nat)(e:Env)(U:St):Prop:=∃(i:Nat) (gv:V) (F' D':Nat→Prop),j=len - i∧i≤len∧Gw sz S.length w F' D' (xs i) gv U∧P i F' D' U∧Stp w F D S F' D' U∧e=env i gv
def WwF(w sz:Nat)(F D:Nat→Prop)(S:St)(P:(Nat→Prop)→(Nat→Prop)→St→Prop)(reg:Nat)(xs:List V)(e:Env)(U:St):Prop:=∃(gv:V) (F' D':Nat→Prop),e.get reg=some gv∧Gw sz S.length w F' D' xs gv U∧P F' D' U∧Stp w F D S F' D' U
def Gs(w:Nat)(F:Nat→Prop)(xs:List ByteArray)(v:V)(S:St):Prop:=(xs=[]∧v=.sl true [])∨∃l wr,F l∧l≠w∧v=.arr l 0 xs.length xs.length∧S[l]?=some (.arr (xs.map .str) 1 wr)∧wr≤xs.length
def Fr(D:Nat→Prop)(fv:V)(fresh:List ByteArray)(S:St):Prop:=(∃b,fv=.sl b (fresh.map .str))∨∃l wr,D l∧fv=.arr l 0 fresh.length fresh.length∧S[l]?=some (.arr (fresh.map .str) 1 wr)∧wr≤fresh.length
def wkO(r:Rp)(bf bt:Bool)(fv vb vf:V)(st:Rst):Ob:=.arr [.agg [vb,vf,fv,.sl bf (r.fro.map .str),.sl bt (r.to.map Ex.v),.bool st.bad,.bool st.caught]] 7 1
structure Rk(r:Rp)(bf bt:Bool)(w:Nat)(fv:V)(bound:List ByteArray)(st:Rst)(F D:Nat→Prop)(S:St):Prop where
 wx:∃vb vf,S[w]?=some (wkO r bf bt fv vb vf st)∧Gs w F bound vb S∧Gs w F st.free vf S∧∀l a b c,vb=.arr l a b c→∀a' b' c',vf≠.arr l a' b' c'
 fr:Fr D fv r.fresh S
 lt:∀l,F l∨D l→l<S.length
 nF:¬ F w
 nD:¬ D w
 di:∀l,F l→¬ D l
 lw:w<S.length
theorem Gs.keep{w:Nat}{F:Nat→Prop}{xs:List ByteArray}{v:V}{S U:St}(h:Gs w F xs v S)(hk:∀l o,F l→S[l]?=some o→U[l]?=some o):Gs w F xs v U:=by
 rcases h with h|⟨l,wr,h1,h2,h3,h4,h5⟩
 ·exact .inl h
 ·exact .inr ⟨l,wr,h1,h2,h3,hk l _ h1 h4,h5⟩
theorem Gs.flat{w:Nat}{F:Nat→Prop}{xs:List ByteArray}{v:V}{S:St}(h:Gs w F xs v S):v.cells=[v]∧v.flat=true∧v.size=1∧lenS v=some (.int .i64 xs.length):=by
 rcases h with ⟨rfl,rfl⟩|⟨l,wr,h1,h2,rfl,h4,h5⟩ <;> exact ⟨rfl,rfl,rfl,rfl⟩
theorem Fr.keep{D:Nat→Prop}{xs:List ByteArray}{v:V}{S U:St}(h:Fr D v xs S)(hk:∀l o,D l→S[l]?=some o→U[l]?=some o):Fr D v xs U:=by
 rcases h with h|⟨l,wr,h1,h3,h4,h5⟩
 ·exact .inl h
 ·exact .inr ⟨l,wr,h1,h3,hk l _ h1 h4,h5⟩
theorem Fr.rd{D:Nat→Prop}{xs:List ByteArray}{v:V}{S:St}(h:Fr D v xs S):Rd v xs S:=by
 rcases h with ⟨b,rfl⟩|⟨l,wr,h1,rfl,h4,h5⟩
 ·exact Rd.sl b xs S
 ·exact Rd.arr h4 h5
theorem Rk.frm(r:Rp)(bf bt:Bool)(w:Nat)(fv:V)(bound:List ByteArray)(st:Rst):Frm w (Rk r bf bt w fv bound st) where
 push {F D S} h os:=by
  have g:∀l o,S[l]?=some o→(S++os)[l]?=some o:=fun l o h=>by rw[qtG (qtD.1 h).1];exact h
  obtain ⟨vb,vf,h1,h2,h3,h4⟩:=h.wx;exact ⟨⟨vb,vf,g _ _ h1,h2.keep fun l o _=>g l o,h3.keep fun l o _=>g l o,h4⟩,h.fr.keep fun l o _=>g l o,fun l hl=>by have:=h.lt l hl;simp;omega,h.nF,h.nD,h.di,by simp;have:=h.lw;omega⟩
 set {F D S} h l o hl:=by
  have g:∀k o',(k=w∨F k∨D k)→S[k]?=some o'→(S.set l o)[k]?=some o':=fun k o' hk h=>by
   rw[qtH]
   ·exact h
   ·rintro rfl;rcases hk with hk|hk|hk
    ·exact hl.1 hk
    ·exact hl.2.1 hk
    ·exact hl.2.2 hk
  obtain ⟨vb,vf,h1,h2,h3,h4⟩:=h.wx;exact ⟨⟨vb,vf,g _ _ (.inl rfl) h1,h2.keep fun l o h=>g l o (.inr (.inl h)),h3.keep fun l o h=>g l o (.inr (.inl h)),h4⟩,h.fr.keep fun l o h=>g l o (.inr (.inr h)),fun l hl=>by have:=h.lt l hl;simpa using this,h.nF,h.nD,h.di,by simpa using h.lw⟩
 out {F D S} h l hl:=⟨by have:=h.lw;omega,fun hf=>by have:=h.lt l (.inl hf);omega,fun hf=>by have:=h.lt l (.inr hf);omega⟩
def ScD(sc:Scs):Prop:=∀s,s∈sc→(s.map (·.1)).Nodup
theorem qr6{s:Sco}(x:ByteArray)(h:(s.map (·.1)).Nodup):Sco.at s.reverse x=Sco.at s x:=by
 induction s with
 | nil=>rfl
 | cons e s ih=>
  rw[qtX,List.nodup_cons] at h;have ih:=ih h.2;unfold Sco.at at ih ⊢;rw[List.reverse_cons,qu8,List.find?_cons];by_cases hx:e.1=x
  ·have hn:s.reverse.find? (fun p=>decide (p.1=x))=none:=by
    rw[List.find?_eq_none];intro e' he' hh;simp only[decide_eq_true_eq] at hh;exact h.1 (by rw[hx,←hh];exact qug (List.mem_reverse.1 he'))
   rw[hn];simp[hx]
  ·simp only[decide_eq_false hx];simp only[List.find?_cons,decide_eq_false hx,List.find?_nil,Option.or_none];exact ih
theorem qh4:∀(sc:Scs) (x:ByteArray),ScD sc→qfz (Scs.flat sc) x=sc.at x
 | [],x,_=>rfl
 | s::r,x,h=>by
  have ih:=qh4 r x fun s hs=>h s (qu2 _ hs)
  have hs:=qr6 x (h s (List.mem_cons_self ..));unfold qfz Sco.at at *;simp only[Scs.flat,List.reverse_append,qu8,Scs.at,Sco.at]
  cases hf:s.reverse.find? (fun p=>decide (p.1=x)) with
  | some p=>rw[hf] at hs;rw[←hs];simp
  | none=>rw[hf] at hs;rw[←hs];simpa using ih
theorem qdD:∀(l:List ByteArray) (s:Sco) (n:Nat),(s.map (·.1)).Nodup→((binds l s n).map (·.1)).Nodup
 | [],s,n,h=>h
 | x::l,s,n,h=>by
  simp only[binds];split
  ·exact qdD l s n h
  ·rename_i hx;refine qdD l _ _ ?_;rw[qt0,List.nodup_append];refine ⟨h,by simp,?_⟩;intro a ha b hb;simp at hb;subst hb;rintro rfl;obtain ⟨e,he,rfl⟩:=qt6.1 ha;apply hx
   cases hf:Sco.at s e.1 with
   | some k=>rfl
   | none=>exact absurd rfl (qh0.1 hf e he)
theorem ScD.bind{sc:Scs}(h:ScD sc)(l:List ByteArray)(n:Nat):ScD (qad l n::sc):=fun s hs=>by
 rcases qt4.1 hs with rfl|hs
 ·exact qdD l [] n qvl
 ·exact h s hs
open Go.Proofs.Tryz
theorem qdn{r:Rp}{bf bt:Bool}{w:Nat}{fv:V}{bound:List ByteArray}{st:Rst}{F D:Nat→Prop}{S:St}(hk:Rk r bf bt w fv bound st F D S):∃vb vf,ldS S (.ptr w 0 0 1) none=some vb∧ldS S (.ptr w 0 1 1) none=some vf∧ldS S (.ptr w 0 2 1) none=some fv∧ldS S (.ptr w 0 3 1) none=some (.sl bf (r.fro.map .str))∧ldS S (.ptr w 0 4 1) none=some (.sl bt (r.to.map Ex.v))∧ldS S (.ptr w 0 5 1) none=some (.bool st.bad)∧ldS S (.ptr w 0 6 1) none=some (.bool st.caught):=by
 obtain ⟨vb,vf,h,_⟩:=hk.wx;unfold wkO at h;refine ⟨vb,vf,?_,?_,?_,?_,?_,?_,?_⟩ <;> simp[ldS,h]
theorem qgS(r:Rp)(bf bt:Bool)(w:Nat)(fv:V)(bound:List ByteArray)(st:Rst)(F D:Nat→Prop)(S:St)(hk:Rk r bf bt w fv bound st F D S)(b:Bool)(sc:Scs)(hd:ScD sc)(hl:(Scs.flat sc).length≤1000000)(x:ByteArray):
  Fn prog 176 [.ptr w 0 0 1,.sl b ((Scs.flat sc).map bndV),.str x] S (.str (rren r sc x)):=by
 refine Spec.intro func176 ok176 (by simp[c176]) ?_;obtain ⟨vb,vf,_,_,hfr,_⟩:=qdn hk;obtain ⟨hlen,hrd⟩:=hk.fr.rd;simp[c176];refine qaj (qml _ b x hl S) ?_;unfold plcV;rw[qh4 sc x hd]
 have hr:rren r sc x=match sc.at x with
  | some k=>(r.fresh[k]?).getD x
  | none=>x:=rfl
 cases hat:sc.at x with
 | none=>
  rw[hat] at hr;simp only at hr;rw[hr];simp;exact qai rfl ⟨rfl,rfl⟩
 | some k=>
  rw[hat] at hr;simp only at hr;have hk0:(0:Int)≤k:=by omega
  by_cases hlt:k<r.fresh.length
  ·obtain ⟨p,hp1,hp2⟩:=hrd k hlt;rw[hr,qtF hlt];simp[hk0,↓qbh,qa8,hfr,hlen,hlt,hp1,hp2];exact qai rfl ⟨rfl,rfl⟩
  ·rw[hr,quC (by omega)];simp[hk0,↓qbh,qa8,hfr,hlen,hlt];exact qai rfl ⟨rfl,rfl⟩
theorem qeT(l:List ByteArray):fits 1 (l.map V.str)=true:=by simp[fits]
theorem qlW(l:List Sm)(hl:qaB (l.map Pa.st)≤4000)(b:Bool)(w:Nat)(P:(Nat→Prop)→(Nat→Prop)→St→Prop)(fm:Frm w P)(F D:Nat→Prop)(S:St)(hk:P F D S):
  Spec prog 163 [.sl b (l.map Sm.v)] S (fun r U=>Rd' w P F D S (.sl false ((qak l).map .str)) r U):=by
 have hlen:l.length≤4000:=by have:=qaT (l.map Pa.st);rw[qtM] at this;omega
 have hlab:∀i,i≤l.length→(qak (l.take i)).length≤4000:=fun i _=>by
  have:∀m:List Sm,(qak m).length≤qaB (m.map Pa.st):=by
   intro m
   induction m with
   | nil=>simp[qak]
   | cons x m ih=>
    have:=Sm.size_parts x;simp only[qak,quB,qtS,qtX,sizes_cons] at ih ⊢;omega
  have h1:=this (l.take i);have h2:qaB (l.map Pa.st)=qaB ((l.take i).map Pa.st)+qaB ((l.drop i).map Pa.st):=by rw[←qbb,←qt0,qun]
  omega
 refine Spec.weakA ?_;simp only[V.weakL,V.weak,wSm];refine Spec.intro func163 ok163 (by simp[c163]) ?_;simp[c163];refine qax (WwF w 1 F D S P 3 ((qak l).map .str)) ?_ ?_
 ·refine qar (LwF w 1 F D S l.length (fun _=>P) (fun i=>(qak (l.take i)).map .str)
   (fun i gv=>[(4,.int .i64 i),(3,gv),(0,.sl false (l.map Sm.v))])) l.length _ ?_ ⟨0,_,F,D,by simp,by omega,by simp[qak];exact Gw.nil _ _ _ _ _ _,hk,Stp.refl _ _ _ _,rfl⟩ ?_
  ·exact Env.so (by simp)
  rintro j e U ⟨i,gv,F1,D1,rfl,hi,hg,hk1,hs1,rfl⟩;dsimp only at hg hk1;by_cases hlt:i<l.length
  ·obtain ⟨v',U3,ha,hg3,hk3,hs4,_⟩:=hg.appF fm (bytes:=16) (x:=.sl false (l[i].labels.map .str)) hk1 hs1 (qb7 _ _ _) (qeT _) (by
    have:=hlab i (by omega);have h2:=qa2 (l:=l.map Pa.st) (i:=i) (q:=Pa.st l[i]) (by simp[hlt]);have h3:=Sm.size_parts l[i];rw[qtM,qtM];omega)
   have hn:(qak (l.take i)).map V.str++l[i].labels.map .str=(qak (l.take (i+1))).map .str:=by
    rw[qtQ,qtF hlt,quf,←qt0];unfold qak;rw[List.flatMap_append];simp
   rw[hn] at hg3;simp[hlt,iaSm,ldS,ha,qaL (n:=(i:Int)+1)];refine ⟨_,?_,_,?_,i+1,v',F1,D1,rfl,by omega,hg3,hk3,hs4,rfl⟩
   ·omega
   ·exact Env.so (by simp)
  ·have:i=l.length:=by omega
   subst this;simp only[qt5] at hg hk1;simp;exact ⟨gv,F1,D1,rfl,hg,hk1,hs1⟩
 rintro e U ⟨gv,F1,D1,g5,hg,hk1,hs1⟩;simp[g5];exact qdZ fm rfl hg hk1 hs1 (by rw[←qaI,wStr])
set_option maxRecDepth 20000
def c42:F':=⟨63,[.t 2],.k [.a 2 (.sl true [])] (.k [.a 3 (.sl true [])] (.seq (.k [.a 4 (.int .i64 0)] (.block 0 (.loop (.seq (.k [.m 7 4,.m 8 0,.o 9 (.len false (.t 8)),.b 10 .lss 7 9] (.cond (.t 10) .skip (.exit 0))) (.seq (.block 1 (.k [.a 5 (.int .i64 0)] (.seq (.block 2 (.loop (.seq (.seq (.draw [.p (.m 13 5) [],.p (.m 14 3) [],.p (.o 15 (.len false (.t 14))) [1],.p (.b 16 .lss 13 15) [0,2,1],.p (.m 17 16) [3,0,2,1],.p (.v 18 17 true (.mv (.t 3))) [4,3,0,2,1],.p (.v 19 17 true (.mv (.t 5))) [4,3,0,2,1],.p (.v 20 17 true (.ia 1 (.t 18) (.t 19))) [5,6,4,3,0,2,1],.p (.v 21 17 true (.ld none (.t 20))) [7,5,6,4,3,0,2,1],.p (.v 22 17 true (.mv (.t 0))) [4,3,0,2,1],.p (.v 23 17 true (.mv (.t 4))) [4,3,0,2,1],.p (.v 24 17 true (.ia 1 (.t 22) (.t 23))) [9,10,4,3,0,2,1],.p (.v 25 17 true (.ld none (.t 24))) [11,9,10,4,3,0,2,1],.p (.v 26 17 true (.bin .lss (.t 21) (.t 25))) [8,12,7,5,6,11,9,10,4,3,0,2,1],.p (.y 27 17 26) [13,8,12,7,5,6,11,9,10,4,3,0,2,1]] []) (.cond (.t 27) .skip (.exit 2))) (.block 3 (.reg [.m 28 5,.u 29 .add 28 1,.m 5 29]))))) (.seq (.seq (.draw [.p (.m 30 5) [],.p (.m 31 3) [],.p (.o 32 (.len false (.t 31))) [1],.p (.b 33 .lss 30 32) [0,2,1],.p (.m 34 33) [3,0,2,1],.p (.v 35 34 true (.mv (.t 3))) [4,3,0,2,1],.p (.v 36 34 true (.mv (.t 5))) [4,3,0,2,1],.p (.v 37 34 true (.ia 1 (.t 35) (.t 36))) [5,6,4,3,0,2,1],.p (.v 38 34 true (.ld none (.t 37))) [7,5,6,4,3,0,2,1],.p (.v 39 34 true (.mv (.t 0))) [4,3,0,2,1],.p (.v 40 34 true (.mv (.t 4))) [4,3,0,2,1],.p (.v 41 34 true (.ia 1 (.t 39) (.t 40))) [9,10,4,3,0,2,1],.p (.v 42 34 true (.ld none (.t 41))) [11,9,10,4,3,0,2,1],.p (.v 43 34 true (.bin .eql (.t 38) (.t 42))) [8,12,7,5,6,11,9,10,4,3,0,2,1],.p (.y 44 34 43) [13,8,12,7,5,6,11,9,10,4,3,0,2,1]] []) (.cond (.t 44) (.exit 1) .skip)) (.k [.a 6 (.sl true [])] (.k [.m 45 6,.m 46 3,.m 47 5,.o 48 (.slc false 1 (.t 46) none (some (.t 47))),.o 49 (.app 1 16 (.t 45) (.t 48)),.m 6 49] (.k [.m 50 6,.m 51 0,.m 52 4,.i 53 1 51 52,.l 54 53,.o 55 (.bsl 1 [(.t 54)]),.o 56 (.app 1 16 (.t 50) (.t 55)),.m 6 56] (.reg [.m 57 6,.m 58 3,.m 59 5,.o 60 (.slc false 1 (.t 58) (some (.t 59)) none),.o 61 (.app 1 16 (.t 57) (.t 60)),.m 3 61])))))))) (.reg [.m 11 4,.u 12 .add 11 1,.m 4 12])))))) (.k [.m 62 3,.m 2 62] .ret)))⟩
theorem ok42:okF Tryz.f42 c42:=okI (by kernel_rfl)
def c10:F':=⟨111,[.t 4],.k [.o 2 (.box (.t 0)),.o 3 (.box (.t 1)),.a 4 (.bool false)] (.seq (.k [.j 12 8 2,.c 13 17 12,.o 14 (.un .not (.t 13)),.m 15 14,.v 16 15 false (.ld (some 7) (.t 3)),.v 17 15 false (.bsl 7 [(.t 16)]),.v 18 15 false (.call (.f 26) [(.t 17)]),.v 19 15 false (.un .not (.t 18)),.z 20 15 19] (.cond (.t 20) (.k [.o 21 (.call (.f 18) []),.m 4 21] .ret) .skip)) (.k [.j 23 8 2,.c 24 29 23,.m 22 24,.e 25 0 22,.e 26 1 22,.m 5 25,.m 6 26] (.k [.j 28 8 2,.c 29 31 28,.m 27 29,.e 30 0 27,.e 31 1 27,.m 7 30,.m 8 31] (.k [.j 33 7 3,.c 34 37 33,.m 32 34,.e 35 0 32,.e 36 1 32,.m 9 35,.m 10 36] (.k [.j 37 8 2,.c 38 20 37,.m 11 38] (.seq (.k [.m 39 11,.u 40 .neq 39 0,.m 41 40,.v 42 41 true (.mv (.t 6)),.v 43 41 true (.mv (.t 11)),.v 44 41 true (.bin .neq (.t 42) (.t 43)),.v 45 41 true (.mv (.t 44)),.v 46 45 false (.mv (.t 8)),.v 47 45 false (.mv (.t 11)),.v 48 45 false (.bin .neq (.t 46) (.t 47)),.v 49 41 true (.pick (.t 45) (.c (.bool true)) (.t 48)),.v 50 41 true (.mv (.t 49)),.v 51 50 false (.mv (.t 5)),.v 52 50 false (.len false (.t 51)),.v 53 50 false (.mv (.t 7)),.v 54 50 false (.len false (.t 53)),.v 55 50 false (.bin .add (.t 52) (.t 54)),.v 56 50 false (.bin .gtr (.t 55) (.c (.int .i64 0))),.v 57 41 true (.pick (.t 50) (.c (.bool true)) (.t 56)),.y 58 41 57,.m 59 58,.v 60 59 false (.mv (.t 11)),.v 61 59 false (.bin .eql (.t 60) (.c (.int .i64 0))),.v 62 59 false (.mv (.t 61)),.v 63 62 true (.mv (.t 6)),.v 64 62 true (.bin .neq (.t 63) (.c (.int .i64 0))),.v 65 62 true (.mv (.t 64)),.v 66 65 false (.mv (.t 8)),.v 67 65 false (.bin .neq (.t 66) (.c (.int .i64 0))),.v 68 62 true (.pick (.t 65) (.c (.bool true)) (.t 67)),.v 69 62 true (.mv (.t 68)),.v 70 69 false (.mv (.t 5)),.v 71 69 false (.ld (some 8) (.t 2)),.v 72 69 false (.call (.f 38) [(.t 71)]),.v 73 69 false (.call (.f 30) [(.t 70),(.t 72)]),.v 74 69 false (.un .not (.t 73)),.v 75 62 true (.pick (.t 69) (.c (.bool true)) (.t 74)),.v 76 62 true (.mv (.t 75)),.v 77 76 false (.mv (.t 7)),.v 78 76 false (.ld (some 8) (.t 2)),.v 79 76 false (.call (.f 39) [(.t 78)]),.v 80 76 false (.call (.f 30) [(.t 77),(.t 79)]),.v 81 76 false (.un .not (.t 80)),.v 82 62 true (.pick (.t 76) (.c (.bool true)) (.t 81)),.v 83 59 false (.pick (.t 62) (.t 82) (.c (.bool false))),.z 84 59 83] (.cond (.t 84) (.k [.a 4 (.bool false)] .ret) .skip)) (.k [.j 85 7 3,.c 86 40 85,.m 11 86] (.seq (.k [.m 87 11,.u 88 .neq 87 0] (.cond (.t 88) (.k [.o 89 (.call (.f 18) []),.m 90 89,.v 91 90 true (.mv (.t 10)),.v 92 90 true (.mv (.t 11)),.v 93 90 true (.bin .eql (.t 91) (.t 92)),.y 94 90 93,.m 95 94,.v 96 95 true (.mv (.t 9)),.v 97 95 true (.len false (.t 96)),.v 98 95 true (.bin .eql (.t 97) (.c (.int .i64 0))),.y 99 95 98,.m 4 99] .ret) .skip)) (.k [.o 100 (.call (.f 18) []),.m 101 100,.v 102 101 true (.mv (.t 10)),.v 103 101 true (.bin .eql (.t 102) (.c (.int .i64 0))),.y 104 101 103,.m 105 104,.v 106 105 true (.mv (.t 9)),.v 107 105 true (.ld (some 7) (.t 3)),.v 108 105 true (.call (.f 41) [(.t 107)]),.v 109 105 true (.call (.f 30) [(.t 106),(.t 108)]),.y 110 105 109,.m 4 110] .ret)))))))))⟩
theorem ok10:okF Tryz.f10 c10:=okI (by kernel_rfl)
theorem qhp(x y:ByteArray):qfL x y=true↔ltB x y:=by
 unfold qfL ltB;rw[qbs,qbs,Go.Proofs.bytesLess_eq,decide_eq_true_eq]
theorem qi1{x:ByteArray}:∀{l:List ByteArray},(insS l x).length≤l.length+1
 | []=>by simp[insS]
 | y::l=>by
  have:=qi1 (x:=x) (l:=l);unfold insS;split
  ·simp only[quh];omega
  ·split <;> simp
def slcS(S:St)(sz:Nat)(d:V)(lo hi:Option Int):Option V:=match d with
 | .sl ..=>qbp S sz d lo hi
 | .arr ..=>qbp S sz d lo hi
 | _=>none
theorem qgI(e:Env)(S:St)(sz:Nat)(x:Opd)(lo hi:Option Opd):evK e S (.slc false sz x lo hi)=(x.ev e).bind fun d=>(qdk e lo).bind fun l=>(qdk e hi).bind fun h=>(slcS S sz d l h).map fun r=>(r,S):=by
 simp only[evK]
 cases x.ev e with
 | none=>rfl
 | some d=>cases qdk e lo with
  | none=>rfl
  | some l=>cases qdk e hi with
   | none=>rfl
   | some h=>cases d <;> rfl
theorem Gr.rd{n0:Nat}{ys:List ByteArray}{v:V}{S:St}(h:Gr 1 n0 (ys.map .str) v S):Rd v ys S:=by
 rcases h with ⟨h1,rfl⟩|⟨l,wr,h1,rfl,h3,h4⟩
 ·have:ys=[]:=by simpa using h1
  subst this;exact Rd.sl true [] S
 ·rw[qtM] at h4 ⊢;exact Rd.arr h3 h4
theorem Gr.ne{sz n0:Nat}{xs:List V}{v:V}{S:St}(h:Gr sz n0 xs v S){l:Nat}(hl:l<n0)(n:Nat):v≠.arr l 0 n n:=by
 rcases h with ⟨_,rfl⟩|⟨l',wr,h1,rfl,_⟩
 ·simp
 ·intro hh;injection hh with hh;omega
theorem Gr.fst{sz n0:Nat}{xs:List V}{v:V}{S:St}(h:Gr sz n0 xs v S){k:Nat}(hk:k≤xs.length):∃a,slcS S sz v none (some (k:Int))=some a∧elems S a=some (xs.take k):=by
 rcases h with ⟨rfl,rfl⟩|⟨l,wr,h1,rfl,h3,h4⟩
 ·have:k=0:=by simpa using hk
  subst this;exact ⟨.sl true [],rfl,rfl⟩
 ·refine ⟨.arr l 0 k xs.length,?_,?_⟩
  ·simp only[slcS,qbp,Option.getD_none,Option.getD_some];rw[if_pos ⟨by omega,by omega,by omega⟩];simp
  ·simp only[elems,h3];rw[if_pos ⟨h4,by omega⟩];simp
theorem Gr.snd{sz n0:Nat}{xs:List V}{v:V}{S:St}(h:Gr sz n0 xs v S){k:Nat}(hk:k≤xs.length):∃a,slcS S sz v (some (k:Int)) none=some a∧elems S a=some (xs.drop k):=by
 rcases h with ⟨rfl,rfl⟩|⟨l,wr,h1,rfl,h3,h4⟩
 ·have:k=0:=by simpa using hk
  subst this;exact ⟨.sl true [],rfl,rfl⟩
 ·simp only[slcS,qbp,Option.getD_none,Option.getD_some];rw[if_pos ⟨by omega,by omega,by omega⟩];by_cases h0:k=0
  ·subst h0;refine ⟨_,if_pos rfl,?_⟩;simp only[elems,h3];rw[if_pos ⟨h4,by omega⟩];simp
  ·rw[if_neg (by omega)];by_cases hn:k=xs.length
   ·exact ⟨_,if_pos (by omega),by rw[hn,List.drop_length];rfl⟩
   ·rw[if_neg (by omega),h3];simp only[];refine ⟨_,if_pos ⟨h4,trivial⟩,?_⟩;simp only[elems,h3,qvm,quH];rw[if_pos ⟨h4,by omega⟩,qub (by rw[List.length_drop];exact qtJ _)]
theorem Gr.put{n0 k:Nat}{xs:List V}{y ov:V}{U:St}(h:Gr 1 n0 xs ov U)(hn:n0≤U.length)(hk:k≤xs.length)(hy:fits 1 [y]=true)(hx:fits 1 xs=true)(hl:xs.length≤1000000)(b:Bool):
  ∃(a v1:V) (U1:St) (v2:V) (U2:St) (c v3:V) (U3:St),slcS U 1 ov none (some (k:Int))=some a∧appS U 1 16 (.sl true []) a=some (v1,U1)∧(∀(l:Nat) (o:Ob),U[l]?=some o→U1[l]?=some o)∧U.length≤U1.length∧appS U1 1 16 v1 (.sl b [y])=some (v2,U2)∧
   slcS U2 1 ov (some (k:Int)) none=some c∧appS U2 1 16 v2 c=some (v3,U3)∧Gr 1 n0 (xs.take k++y::xs.drop k) v3 U3∧(∀(l:Nat) (o:Ob),U[l]?=some o→U3[l]?=some o)∧U.length≤U3.length:=by
 have ft:∀z:List V,(∀x,x∈z→x∈xs)→fits 1 z=true:=fun z hz=>by
  unfold fits at hx ⊢;rw[qt2] at hx ⊢;exact fun x h=>hx x (hz x h)
 obtain ⟨a,ha,ea⟩:=h.fst hk;obtain ⟨v1,U1,p1,g1,l1,k1,_⟩:=(Gr.nil 1 U.length U).appE (bytes:=16) ea (ft _ fun x hx=>qvt hx) (by simp;omega) (qtJ _);rw[qt7] at g1;have k1:∀l o,U[l]?=some o→U1[l]?=some o:=fun l o ho=>k1 l o ho fun n=>by simp
 have e1:elems U1 (.sl b [y])=some [y]:=rfl;obtain ⟨v2,U2,p2,g2,l2,k2,_⟩:=g1.appE (bytes:=16) e1 hy (by simp;omega) l1;have k2:∀l o,U[l]?=some o→U2[l]?=some o:=fun l o ho=>k2 l o (k1 l o ho) fun n=>g1.ne (glt ho) n
 have h2:Gr 1 n0 xs ov U2:=h.keep fun l _ hl=>by
  rw[qtF hl];exact k2 l _ (qtF hl)
 obtain ⟨c,hc,ec⟩:=h2.snd hk;obtain ⟨v3,U3,p3,g3,l3,k3,_⟩:=g2.appE (bytes:=16) ec (ft _ fun x hx=>List.mem_of_mem_drop hx) (by simp;omega) (by omega);refine ⟨a,v1,U1,v2,U2,c,v3,U3,ha,p1,k1,l1,p2,hc,p3,?_,fun l o ho=>k3 l o (k2 l o ho) fun n=>g2.ne (glt ho) n,by omega⟩;have:=g3.less hn;rw[qtN] at this;exact this
def Sd(l:List ByteArray)(i:Nat):List ByteArray:=(l.take i).foldl insS []
theorem qpk{l:List ByteArray}{i:Nat}(h:i<l.length):Sd l (i+1)=insS (Sd l i) l[i]:=by
 unfold Sd;rw[qtQ,qtF h,quf,quS];rfl
theorem qg3:∀{l out:List ByteArray},(l.foldl insS out).length≤out.length+l.length
 | [],out=>by simp
 | x::l,out=>by
  have h1:=qg3 (l:=l) (out:=insS out x);have h2:=qi1 (x:=x) (l:=out);rw[qvn,quh];omega
theorem qsl(l:List ByteArray)(i:Nat):(Sd l i).length≤l.length:=by
 have h1:=qg3 (l:=l.take i) (out:=[]);have h2:=List.length_take_le i l;unfold Sd;simp only[quw] at h1;have h3:(l.take i).length≤l.length:=by rw[quE];omega
 omega
structure Sq(l:List ByteArray)(S:St)(i:Nat)(ov:V)(U:St):Prop where
 g:Gr 1 S.length ((Sd l i).map .str) ov U
 k:Kp (fun _=>False) S U
theorem qmS(v:V)(l:List ByteArray)(hl:l.length≤100000)(S:St)(hr:∀U,Kp (fun _=>False) S U→Rd v l U):
    Spec prog 42 [v] S (fun r U=>r=.sl false ((l.foldl insS []).map .str)∧Kp (fun _=>False) S U):=by
  refine Spec.intro func42 ok42 (by simp[c42]) ?_;simp[c42];refine qax (fun e U=>∃ov,e.get 3=some ov∧Sq l S l.length ov U) ?_ ?_
  · refine qar (fun j e U=>∃(i:Nat) (ov:V),j=l.length - i∧i≤l.length∧Sq l S i ov U∧e=[(4,.int .i64 i),(3,ov),(0,v)]) l.length _ ?_ ⟨0,.sl true [],by simp,by omega,⟨Gr.nil _ _ _,Kp.refl _ _⟩,rfl⟩ ?_
    · exact Env.so (by simp)
    rintro j e U ⟨i,ov,rfl,hi,hq,rfl⟩;obtain ⟨hlen,hrd⟩:=hr U hq.k;have hU:=hq.k.len;by_cases h:i<l.length
    case neg=>
      have:i=l.length:=by omega
      subst this;simp[↓qbh,hlen];exact hq
    obtain ⟨p,hp1,hp2⟩:=hrd i h;have hsl:=qsl l i;obtain ⟨hol,hod⟩:=hq.g.rd;have hnx:=qpk h;obtain ⟨x,hx⟩:∃x,x=l[i]:=⟨_,rfl⟩;rw[←hx] at hp2 hnx;obtain ⟨d,hd⟩:∃d,d=Sd l i:=⟨_,rfl⟩;rw[←hd] at hnx hsl hol hod;simp[↓qbh,hlen,h];refine qax (fun e' U'=>U'=U∧∃k:Nat,k≤d.length∧(∀j y,j<k→d[j]?=some y→ltB y x)∧(∀y,d[k]?=some y→¬ ltB y x)∧e'.get 0=some v∧e'.get 3=some ov∧e'.get 4=some (.int .i64 i)∧e'.get 5=some (.int .i64 k)) ?_ ?_
    · refine qar (fun j e' U'=>∃k:Nat,j=d.length - k∧k≤d.length∧U'=U∧(∀j y,j<k→d[j]?=some y→ltB y x)∧e'=[(5,.int .i64 k),(4,.int .i64 i),(3,ov),(0,v)]) d.length _ ?_ ⟨0,by simp,by omega,rfl,fun j y hj=>by omega,rfl⟩ ?_
      · exact Env.so (by simp)
      rintro j e' U' ⟨k,rfl,hk,rfl,hlt,rfl⟩;by_cases hkl:k<d.length
      · obtain ⟨q,hq1,hq2⟩:=hod k hkl
        cases hs:qfL d[k] x with
        | true=>
          simp[↓qbh,hol,hkl,hq1,hq2,hp1,hp2,hs];refine qbl rfl rfl ?_;simp[hs,qaL (n:=(k:Int)+1)];refine ⟨_,?_,_,?_,k+1,rfl,by omega,fun j y hj hy=>?_,rfl⟩
          · omega
          · exact Env.so (by simp)
          · by_cases hjk:j=k
            · subst hjk;rw[qtF hkl] at hy;cases hy;exact (qhp _ _).1 hs
            · exact hlt j y (by omega) hy
        | false=>
          simp[↓qbh,hol,hkl,hq1,hq2,hp1,hp2,hs];refine qbl rfl rfl ?_;simp[hs];refine ⟨k,hk,hlt,fun y hy=>?_,rfl⟩;rw[qtF hkl] at hy;cases hy;rw[←qhp,hs];simp
      · have:k=d.length:=by omega
        subst this;simp[↓qbh,hol];refine qbl rfl rfl ?_;simp;exact ⟨d.length,qtJ _,hlt,fun y hy=>by simp at hy,rfl⟩
    rintro e' U' ⟨rfl,k,hk,h1,h2,g0,g3,g4,g5⟩;have hat:=qlZ d k hk h1 h2;by_cases hkx:d[k]?=some x
    · obtain ⟨hkl,hkx'⟩:=qtD.1 hkx;obtain ⟨q,hq1,hq2⟩:=hod k hkl;rw[hkx'] at hq2;rw[if_pos hkx] at hat;simp[↓qbh,g0,g3,g4,g5,hol,hkl,hq1,hq2,hp1,hp2];refine qbl rfl rfl ?_;simp[g0,g3,g4,g5,qaL (n:=(i:Int)+1)];refine ⟨_,?_,_,?_,i+1,rfl,by omega,ov,⟨by rw[hnx,hat,hd];exact hq.g,hq.k⟩,rfl⟩
      · omega
      · repeat' first|exact Env.sub_nil _|refine Env.sub_cons (by simp[g0,g3]) ?_
    · rw[if_neg hkx] at hat;have hg:Gr 1 S.length (d.map .str) ov U':=by rw[hd];exact hq.g
      obtain ⟨a,v1,U1,v2,U2,c,v3,U3,q1,q2,q3,q4,q5,q6,q7,q8,q9,q10⟩:=hg.put (y:=.str x) (b:=true) hU (by rw[qtM];exact hk) rfl (qeT d) (by rw[qtM];omega)
      have kU:∀{Y:St},(∀(l:Nat) (o:Ob),U'[l]?=some o→Y[l]?=some o)→U'.length≤Y.length→Kp (fun _=>False) S Y:=fun {Y} hV hl=>⟨by omega,fun m hm hn=>by
        have h1:=hq.k.get m hm hn;have h2:m<U'.length:=by omega
        rw[←h1,qtF h2];exact hV m _ (qtF h2)⟩
      obtain ⟨_,hrd1⟩:=hr U1 (kU q3 q4);obtain ⟨p',hp3,hp4⟩:=hrd1 i h;rw[←hx] at hp4;have hft:fits 1 [V.str x]=true:=rfl;have hq3:Sq l S (i+1) v3 U3:=⟨by rw[hnx,hat];simpa using q8,kU q9 q10⟩;by_cases hkl:k<d.length
      · obtain ⟨q,hq1,hq2⟩:=hod k hkl;have hne:¬ d[k]=x:=fun hh=>hkx (by rw[qtF hkl,hh])
        simp[↓qbh,↓qgI,g0,g3,g4,g5,hol,hkl,hq1,hq2,hp1,hp2,hne];refine qbl rfl rfl ?_;simp[↓qbh,↓qgI,qdk,g0,g3,g4,g5,q1,q2,hp3,hp4,hft,q5,q6,q7,qaL (n:=(i:Int)+1)];refine ⟨_,?_,_,?_,i+1,rfl,by omega,v3,hq3,rfl⟩
        · omega
        · repeat' first|exact Env.sub_nil _|refine Env.sub_cons (by simp[g0,g3]) ?_
      · simp[↓qbh,↓qgI,g0,g3,g4,g5,hol,hkl];refine qbl rfl rfl ?_;simp[↓qbh,↓qgI,qdk,g0,g3,g4,g5,q1,q2,hp3,hp4,hft,q5,q6,q7,qaL (n:=(i:Int)+1)];refine ⟨_,?_,_,?_,i+1,rfl,by omega,v3,hq3,rfl⟩
        · omega
        · repeat' first|exact Env.sub_nil _|refine Env.sub_cons (by simp[g0,g3]) ?_
  rintro e U ⟨ov,g3,hq⟩;simp[g3];have hsd:Sd l l.length=l.foldl insS []:=by unfold Sd;rw[qt5]
  have hq1:=hq.g;rw[hsd] at hq1
  obtain ⟨U',gh,hk⟩:∃U',qaW S.length ov U (.sl false ((l.foldl insS []).map .str)) U'∧Kp (fun _=>False) S U':=by
    rcases hq1 with ⟨h1,rfl⟩|⟨m,wr,h1,rfl,h3,h4⟩
    · rw[h1];exact ⟨U,qaW.weak (r:=.sl true []),hq.k⟩
    · have g1:=qaW.freeze (n:=S.length) (l:=m) (off:=0) (len:=((l.foldl insS []).map V.str).length) (st:=((l.foldl insS []).map V.str).length) h3 h4 (by omega);simp only[List.drop_zero,qt5] at g1;exact ⟨_,g1,hq.k.set _ (.inr h1)⟩
  exact ⟨_,rfl,_,U',gh,rfl,hk⟩
theorem Gs.app{w:Nat}{F D:Nat→Prop}{xs:List ByteArray}{v:V}{S:St}(h:Gs w F xs v S)(hlt:∀l,F l∨D l→l<S.length)(hw:w<S.length)(x:ByteArray)(hr:(xs.length+1) * 16≤2 ^ 47)(b:Bool):
  ∃v' S' F',appS S 1 16 v (.sl b [.str x])=some (v',S')∧Gs w F' (xs++[x]) v' S'∧S.length≤S'.length∧(∀l o,S[l]?=some o→(∀a b c,v≠.arr l a b c)→S'[l]?=some o)∧(∀l,F' l↔F l∨v=.sl true []∧l=S.length)∧(∀l,l<S.length→¬ F l→S'[l]?=S[l]?)∧(∀l,F' l→l<S'.length)∧(v=.sl true []→v'=.arr S.length 0 1 1)∧(∀l a b c,v=.arr l a b c→v'=.arr l 0 (xs.length+1) (xs.length+1)):=by
 have hy:fits 1 [V.str x]=true:=rfl;rcases h with ⟨rfl,rfl⟩|⟨l,wr,h1,h2,rfl,h3,h4⟩
 ·refine ⟨.arr S.length 0 1 1,S++[.arr [.str x] 1 1],fun l=>F l∨l=S.length,?_,.inr ⟨S.length,1,.inr rfl,by omega,by simp,by simp,by simp⟩,by simp,fun l o h _=>gp h,fun l=>by simp,fun l hl _=>by rw[qtG hl],?_,fun _=>rfl,fun l a b c hh=>by cases hh⟩
  ·unfold appS;rw[qb7];have hc:true=true∧fits 1 [V.str x]=true∧(([]:List V).all fun v=>v.size==1)=true∧(([]:List V).length+[V.str x].length) * 16≤2 ^ 47:=⟨rfl,hy,rfl,by simp⟩;show (if [V.str x].isEmpty=true then _ else _)=_;rw[if_neg (by simp),if_pos hc];simp
  ·rintro l (hl|rfl)
   ·have:=hlt l (.inl hl);simp;omega
   ·simp
 ·have hc:0=0∧xs.length=(xs.map V.str).length∧xs.length=(xs.map V.str).length∧1=1∧fits 1 [V.str x]=true∧((xs.map V.str).length+[V.str x].length) * 16≤2 ^ 47:=⟨rfl,by simp,by simp,rfl,hy,by simpa using hr⟩;have hlt':l<S.length:=(qtD.1 h3).1;refine ⟨.arr l 0 (xs.length+1) (xs.length+1),S.set l (.arr (xs.map .str++[.str x]) 1 wr),F,?_,.inr ⟨l,wr,h1,h2,by simp,by rw[qtI hlt'];simp,by simp;omega⟩,by simp,fun k o ho hne=>?_,fun l=>by simp,fun k hk hn=>?_,fun k hk=>by have:=hlt k (.inl hk);simpa using this,fun hh=>(by cases hh),fun l a b c hh=>by cases hh;rfl⟩
  ·unfold appS;rw[qb7];show (match S[l]? with|_=>_)=_;rw[h3];show (if _ then _ else _)=_;rw[if_pos hc];simp
  ·rw[qtH (by rintro rfl;exact hne _ _ _ rfl)];exact ho
  ·rw[qtH (by rintro rfl;exact hn h1)]
theorem Rk.addB{r:Rp}{bf bt:Bool}{w:Nat}{fv:V}{bound:List ByteArray}{st:Rst}{F D:Nat→Prop}{S:St}(h:Rk r bf bt w fv bound st F D S)(x:ByteArray)(hr:(bound.length+1) * 16≤2 ^ 47)(b:Bool):
  ∃vb vf vb' S' F',S[w]?=some (wkO r bf bt fv vb vf st)∧appS S 1 16 vb (.sl b [.str x])=some (vb',S')∧S'[w]?=some (wkO r bf bt fv vb vf st)∧vb'.cells=[vb']∧vb'.flat=true∧vb'.size=1∧lenS vb=some (.int .i64 bound.length)∧Rk r bf bt w fv (bound++[x]) st F' D (S'.set w (wkO r bf bt fv vb' vf st))∧Stp w F D S F' D (S'.set w (wkO r bf bt fv vb' vf st)):=by
 obtain ⟨vb,vf,h1,h2,h3,h4⟩:=h.wx;obtain ⟨vb',S',F',a1,a2,a3,a4,a5,a6,a7,a8,a9⟩:=h2.app h.lt h.lw x hr b;have hlw:=h.lw;have hw':S'[w]?=some (wkO r bf bt fv vb vf st):=by rw[a6 w h.lw h.nF];exact h1
 have hset:∀l o,l≠w→S'[l]?=some o→(S'.set w (wkO r bf bt fv vb' vf st))[l]?=some o:=fun l o hl ho=>by rw[qtH (Ne.symm hl)];exact ho
 have hFn:∀l,F' l→F l∨S.length≤l:=fun l hl=>((a5 l).1 hl).imp id fun hh=>by omega
 have hvf:Gs w F' st.free vf (S'.set w (wkO r bf bt fv vb' vf st)):=by
  rcases h3 with hh|⟨l,wr,z1,z2,z3,z4,z5⟩
  ·exact .inl hh
  ·refine .inr ⟨l,wr,(a5 l).2 (.inl z1),z2,z3,hset _ _ z2 (a4 l _ z4 fun a b c hh=>h4 l a b c hh _ _ _ z3),z5⟩
 obtain ⟨f1,f2,f3,_⟩:=a2.flat;refine ⟨vb,vf,vb',S',F',h1,a1,hw',f1,f2,f3,h2.flat.2.2.2,⟨⟨vb',vf,?_,?_,?_,?_⟩,?_,?_,?_,h.nD,?_,?_⟩,⟨?_,?_⟩,hFn,grow.refl _ _⟩
 ·exact qtI (by omega)
 ·exact a2.keep fun l o hl ho=>hset _ _ (fun hh=>by subst hh;rcases hFn _ hl with hh|hh;exact h.nF hh;omega) ho
 ·exact hvf
 ·intro l a b c hb a' b' c' hf;rcases h2 with ⟨_,rfl⟩|⟨l0,wr,z1,z2,rfl,z4,z5⟩
  ·rw[a8 rfl] at hb;cases hb;rcases h3 with ⟨_,hh⟩|⟨l1,wr1,y1,y2,y3,y4,y5⟩
   ·rw[hh] at hf;cases hf
   ·rw[y3] at hf;cases hf;have:=glt y4;omega
  ·rw[a9 _ _ _ _ rfl] at hb;cases hb;exact h4 _ _ _ _ rfl _ _ _ hf
 ·exact h.fr.keep fun l o hl ho=>hset _ _ (fun hh=>h.nD (hh ▸ hl)) (by rw[a6 l (h.lt l (.inr hl)) (fun hf=>h.di l hf hl)];exact ho)
 ·rintro l (hl|hl)
  ·have:=a7 l hl;simpa using this
  ·have:=h.lt l (.inr hl);simp;omega
 ·intro hf;rcases hFn _ hf with hh|hh
  ·exact h.nF hh
  ·omega
 ·intro l hl hd;rcases hFn _ hl with hh|hh
  ·exact h.di l hh hd
  ·have:=h.lt l (.inr hd);omega
 ·simp;omega
 ·simp;omega
 ·intro l hl hn;rw[qtH (fun hh=>hn (.inl hh.symm)),a6 l hl fun hf=>hn (.inr hf)]
theorem Rk.addF{r:Rp}{bf bt:Bool}{w:Nat}{fv:V}{bound:List ByteArray}{st:Rst}{F D:Nat→Prop}{S:St}(h:Rk r bf bt w fv bound st F D S)(x:ByteArray)(hr:(st.free.length+1) * 16≤2 ^ 47)(b:Bool):
  ∃vb vf vf' S' F',S[w]?=some (wkO r bf bt fv vb vf st)∧appS S 1 16 vf (.sl b [.str x])=some (vf',S')∧S'[w]?=some (wkO r bf bt fv vb vf st)∧vf'.cells=[vf']∧vf'.flat=true∧vf'.size=1∧Rk r bf bt w fv bound { st with free:=st.free++[x] } F' D (S'.set w (wkO r bf bt fv vb vf' st))∧Stp w F D S F' D (S'.set w (wkO r bf bt fv vb vf' st)):=by
 obtain ⟨vb,vf,h1,h3,h2,h4⟩:=h.wx;obtain ⟨vf',S',F',a1,a2,a3,a4,a5,a6,a7,a8,a9⟩:=h2.app h.lt h.lw x hr b;have hlw:=h.lw;have hw':S'[w]?=some (wkO r bf bt fv vb vf st):=by rw[a6 w h.lw h.nF];exact h1
 have hset:∀l o,l≠w→S'[l]?=some o→(S'.set w (wkO r bf bt fv vb vf' st))[l]?=some o:=fun l o hl ho=>by rw[qtH (Ne.symm hl)];exact ho
 have hFn:∀l,F' l→F l∨S.length≤l:=fun l hl=>((a5 l).1 hl).imp id fun hh=>by omega
 have hvf:Gs w F' bound vb (S'.set w (wkO r bf bt fv vb vf' st)):=by
  rcases h3 with hh|⟨l,wr,z1,z2,z3,z4,z5⟩
  ·exact .inl hh
  ·refine .inr ⟨l,wr,(a5 l).2 (.inl z1),z2,z3,hset _ _ z2 (a4 l _ z4 fun a b c hh=>h4 l _ _ _ z3 a b c hh),z5⟩
 obtain ⟨f1,f2,f3,_⟩:=a2.flat;refine ⟨vb,vf,vf',S',F',h1,a1,hw',f1,f2,f3,⟨⟨vb,vf',?_,?_,?_,?_⟩,?_,?_,?_,h.nD,?_,?_⟩,⟨?_,?_⟩,hFn,grow.refl _ _⟩
 ·exact qtI (by omega)
 ·exact hvf
 ·exact a2.keep fun l o hl ho=>hset _ _ (fun hh=>by subst hh;rcases hFn _ hl with hh|hh;exact h.nF hh;omega) ho
 ·intro l a b c hb a' b' c' hf;rcases h2 with ⟨_,rfl⟩|⟨l0,wr,z1,z2,rfl,z4,z5⟩
  ·rw[a8 rfl] at hf;cases hf;rcases h3 with ⟨_,hh⟩|⟨l1,wr1,y1,y2,y3,y4,y5⟩
   ·rw[hh] at hb;cases hb
   ·rw[y3] at hb;cases hb;have:=glt y4;omega
  ·rw[a9 _ _ _ _ rfl] at hf;cases hf;exact h4 _ _ _ _ hb _ _ _ rfl
 ·exact h.fr.keep fun l o hl ho=>hset _ _ (fun hh=>h.nD (hh ▸ hl)) (by rw[a6 l (h.lt l (.inr hl)) (fun hf=>h.di l hf hl)];exact ho)
 ·rintro l (hl|hl)
  ·have:=a7 l hl;simpa using this
  ·have:=h.lt l (.inr hl);simp;omega
 ·intro hf;rcases hFn _ hf with hh|hh
  ·exact h.nF hh
  ·omega
 ·intro l hl hd;rcases hFn _ hl with hh|hh
  ·exact h.di l hh hd
  ·have:=h.lt l (.inr hd);omega
 ·simp;omega
 ·simp;omega
 ·intro l hl hn;rw[qtH (fun hh=>hn (.inl hh.symm)),a6 l hl fun hf=>hn (.inr hf)]
theorem Rk.flag{r:Rp}{bf bt:Bool}{w:Nat}{fv:V}{bound:List ByteArray}{st:Rst}{F D:Nat→Prop}{S:St}(h:Rk r bf bt w fv bound st F D S)(b c:Bool):
  ∃vb vf,S[w]?=some (wkO r bf bt fv vb vf st)∧vb.cells=[vb]∧vf.cells=[vf]∧Rk r bf bt w fv bound { st with bad:=b,caught:=c } F D (S.set w (wkO r bf bt fv vb vf { st with bad:=b,caught:=c }))∧Stp w F D S F D (S.set w (wkO r bf bt fv vb vf { st with bad:=b,caught:=c })):=by
 obtain ⟨vb,vf,h1,h2,h3,h4⟩:=h.wx;have g:∀l o,l≠w→S[l]?=some o→(S.set w (wkO r bf bt fv vb vf { st with bad:=b,caught:=c }))[l]?=some o:=fun l o hl ho=>by rw[qtH (Ne.symm hl)];exact ho
 refine ⟨vb,vf,h1,h2.flat.1,h3.flat.1,⟨⟨vb,vf,qtI h.lw,h2.keep fun l o hl=>g l o (fun hh=>h.nF (hh ▸ hl)),h3.keep fun l o hl=>g l o (fun hh=>h.nF (hh ▸ hl)),h4⟩,h.fr.keep fun l o hl=>g l o (fun hh=>h.nD (hh ▸ hl)),fun l hl=>by have:=h.lt l hl;simpa using this,h.nF,h.nD,h.di,by simpa using h.lw⟩,⟨(Kp.refl _ _).set _ (.inl (.inl rfl)),grow.refl _ _,grow.refl _ _⟩⟩
def Nr(w:Nat)(F D:Nat→Prop)(names:List ByteArray)(v:V)(S:St):Prop:=(∃b,v=.sl b (names.map .str))∨∃l wr,Off w F D l∧v=.arr l 0 names.length names.length∧S[l]?=some (.arr (names.map .str) 1 wr)∧wr≤names.length
theorem Nr.step{w:Nat}{F D F' D':Nat→Prop}{names:List ByteArray}{v:V}{S U:St}(h:Nr w F D names v S)(s:Stp w F D S F' D' U):Nr w F' D' names v U:=by
 rcases h with h|⟨l,wr,h2,h3,h4,h5⟩
 ·exact .inl h
 ·exact .inr ⟨l,wr,h2.next (glt h4) s,h3,s.at h2 h4,h5⟩
theorem Nr.rd{w:Nat}{F D:Nat→Prop}{names:List ByteArray}{v:V}{S:St}(h:Nr w F D names v S):Rd v names S:=by
 rcases h with ⟨b,rfl⟩|⟨l,wr,h1,rfl,h4,h5⟩
 ·exact Rd.sl b names S
 ·exact Rd.arr h4 h5
theorem Gw.other{sz n0 w:Nat}{F D:Nat→Prop}{xs:List V}{v:V}{S U:St}(h:Gw sz n0 w F D xs v S)(hk:∀l o,S[l]?=some o→(∀a b c,v=.arr l a b c→U[l]?=some o)):Gw sz n0 w F D xs v U:=by
 rcases h with h|⟨l,wr,h1,h2,h3,h4,h5⟩
 ·exact .inl h
 ·exact .inr ⟨l,wr,h1,h2,h3,hk l _ h4 _ _ _ h3,h5⟩
theorem Gw.rd{n0 w:Nat}{F D:Nat→Prop}{names:List ByteArray}{v:V}{S:St}(h:Gw 1 n0 w F D (names.map .str) v S):Rd v names S:=by
 rcases h with ⟨h1,rfl⟩|⟨l,wr,h1,h2,rfl,h4,h5⟩
 ·rw[List.map_eq_nil_iff] at h1;subst h1;exact Rd.sl true [] S
 ·rw[qtM] at h5 ⊢;exact Rd.arr h4 h5
theorem qnN(s:Sco)(x:ByteArray):isIn x (s.map (·.1))=(Sco.at s x).isSome:=by
 cases h:Sco.at s x with
 | none=>
  rw[qgr.2]
  ·rfl
  intro hm;obtain ⟨e,he,rfl⟩:=qt6.1 hm;exact qh0.1 h e he rfl
 | some k=>
  rw[qcb.2]
  ·rfl
  unfold Sco.at at h;rw[qtK] at h;obtain ⟨e,he,_⟩:=h;have h1:=List.find?_some he;simp only[decide_eq_true_eq] at h1;rw[←h1];exact qug (List.mem_of_find?_eq_some he)
def qfe(v u:V):Prop:=∀l a b c,v=.arr l a b c→∀a' b' c',u≠.arr l a' b' c'
structure Ei(r:Rp)(bf bt:Bool)(w:Nat)(fv:V)(bound:List ByteArray)(st:Rst)(F D:Nat→Prop)(S:St)(sc:Scs)(names:List ByteArray)(nv:V)(i:Nat)(hv ov:V)(F' D':Nat→Prop)(U:St):Prop where
 rk:Rk r bf bt w fv (bound++(qad (names.take i) bound.length).map (·.1)) st F' D' U
 st:Stp w F D S F' D' U
 had:Gw 1 S.length w F' D' (((qad (names.take i) bound.length).map (·.1)).map .str) hv U
 out:Gw 2 S.length w F' D' ((Scs.flat sc++qad (names.take i) bound.length).map bndV) ov U
 nr:Nr w F' D' names nv U
 df:qfe hv ov
def EiL(r:Rp)(bf bt:Bool)(w:Nat)(fv:V)(bound:List ByteArray)(st:Rst)(F D:Nat→Prop)(S:St)(sc:Scs)(names:List ByteArray)(nv:V)(j:Nat)(e:Env)(U:St):Prop:=
 ∃(i:Nat) (hv ov:V) (F' D':Nat→Prop),j=names.length - i∧i≤names.length∧Ei r bf bt w fv bound st F D S sc names nv i hv ov F' D' U∧e=[(9,.int .i64 i),(7,hv),(8,ov),(0,.ptr w 0 0 1),(2,nv)]
def EiE(r:Rp)(bf bt:Bool)(w:Nat)(fv:V)(bound:List ByteArray)(st:Rst)(F D:Nat→Prop)(S:St)(sc:Scs)(names:List ByteArray)(nv:V)(e:Env)(U:St):Prop:=
 ∃(hv ov:V) (F' D':Nat→Prop),Ei r bf bt w fv bound st F D S sc names nv names.length hv ov F' D' U∧e.get 8=some ov
theorem qm3(l:Sco):V.weakL (l.map bndV)=l.map bndV:=qcL (fun _=>rfl) l
theorem qik(r:Rp)(bf bt:Bool)(w:Nat)(fv:V)(bound:List ByteArray)(st:Rst)(F D:Nat→Prop)(S:St)(hk:Rk r bf bt w fv bound st F D S)(b:Bool)(sc:Scs)(names:List ByteArray)(nv:V)(hnr:Nr w F D names nv S)
  (hl:(Scs.flat sc).length+names.length≤100000) (hb:bound.length+names.length≤100000):
  Spec prog 162 [.ptr w 0 0 1,.sl b ((Scs.flat sc).map bndV),nv] S (fun v U=>Rd' w (Rk r bf bt w fv (bound++nms names) st) F D S (.sl false ((Scs.flat (qad names bound.length::sc)).map bndV)) v U):=by
 refine Spec.intro func162 ok162 (by simp[c162]) ?_;have fm:=Rk.frm r bf bt w fv bound st;have hfb:fits 2 ((Scs.flat sc).map bndV)=true:=by simp[fits,bndV,V.size,V.cells,V.flat]
 obtain ⟨ov,S1,ha,hg,hk1,hs1,_⟩:=(Gw.nil 2 S.length w F D S).appF fm (bytes:=24) (x:=.sl b ((Scs.flat sc).map bndV)) hk (Stp.refl _ _ _ _) (qb7 _ _ _) hfb (by simp;omega);rw[qt7] at hg;have hf0:fits 2 []=true:=rfl;simp[c162,hf0,ha];refine qax (EiE r bf bt w fv bound st F D S sc names nv) ?_ ?_
 ·refine qar (EiL r bf bt w fv bound st F D S sc names nv) names.length _ ?_ ⟨0,.sl true [],ov,F,D,by simp,by omega,⟨by simpa[qad,binds] using hk1,hs1,by simpa[qad,binds] using Gw.nil 1 S.length w F D S1,by simpa[qad,binds] using hg,hnr.step hs1,fun l a b c hh=>by cases hh⟩,rfl⟩ ?_
  ·exact Env.so (by simp)
  rintro j e U ⟨i,hv,ov,F1,D1,rfl,hi,ei,rfl⟩;obtain ⟨hlen,hrd⟩:=ei.nr.rd;by_cases hlt:i<names.length
  ·obtain ⟨p,hp1,hp2⟩:=hrd i hlt;have hsn:=qbR names[i] (names.take i) bound.length;have hte:names.take i++[names[i]]=names.take (i+1):=by rw[qtQ,qtF hlt];rfl
   rw[hte] at hsn;have hbl:=qef names bound.length (names.length - i) i (by omega);have hbl2:=qkQ names bound.length;have hin:=qqb hv ((qad (names.take i) bound.length).map (·.1)) names[i] U (by rw[qtM];omega) ei.had.rd;rw[qnN] at hin;simp[↓qbh,hlen,hlt,hp1,hp2];refine qaj hin ?_
   cases hat:(Sco.at (qad (names.take i) bound.length) names[i]).isSome with
   | true=>
    rw[hat] at hsn;simp only[if_true] at hsn;simp[qaL (n:=(i:Int)+1)];refine ⟨_,?_,_,?_,i+1,hv,ov,F1,D1,rfl,by omega,⟨by rw[hsn];exact ei.rk,ei.st,by rw[hsn];exact ei.had,by rw[hsn];exact ei.out,ei.nr,ei.df⟩,rfl⟩
    ·omega
    ·exact Env.so (by simp)
   | false=>
    rw[hat] at hsn;simp only[qud,if_false] at hsn;have fmi:=Rk.frm r bf bt w fv (bound++(qad (names.take i) bound.length).map (·.1)) st;have hfs:fits 1 [V.str names[i]]=true:=rfl;obtain ⟨hv',U1,a1,a2,a3,a4,a5,a6⟩:=ei.had.app1F fmi (bytes:=16) (b:=true) (y:=.str names[i]) ei.rk ei.st hfs (by simp;omega);have out1:Gw 2 S.length w F1 D1 ((Scs.flat sc++qad (names.take i) bound.length).map bndV) ov U1:=ei.out.other fun l o ho a b c hov=>a5 l o ho fun a' b' c' hh=>ei.df l a' b' c' hh a b c hov
    have nr1:=hnr.step a4;obtain ⟨hlen1,hrd1⟩:=nr1.rd;obtain ⟨p',hq1,hq2⟩:=hrd1 i hlt;obtain ⟨vb,vf,r0,_⟩:=qdn a3
    have hlb:lenS vb=some (.int .i64 (bound.length+(qad (names.take i) bound.length).length:Nat)):=by
     obtain ⟨vb2,vf2,h1,h2,_⟩:=a3.wx;unfold wkO at h1;have:vb=vb2:=by simpa[ldS,h1,h2.flat.1] using r0.symm
     rw[this,h2.flat.2.2.2];simp
    have hfe:fits 2 [bndV (names[i],bound.length+(qad (names.take i) bound.length).length)]=true:=rfl;obtain ⟨ov',U2,b1,b2,b3,b4,b5,b6⟩:=out1.app1F fmi (bytes:=24) (b:=true) (y:=bndV (names[i],bound.length+(qad (names.take i) bound.length).length)) a3 a4 hfe (by simp;omega);have dlt:=a2.lt;have olt:=ei.out.lt;have hlt0:=ei.had.lt
    have df1:qfe hv' ov:=fun l a b c hh a' b' c' ho=>by
     rcases a6 l a b c hh with h1|h1
     ·exact ei.df l _ _ _ h1 a' b' c' ho
     ·have:=olt l a' b' c' ho;omega
    have had2:Gw 1 S.length w F1 D1 (((qad (names.take i) bound.length).map (·.1)).map .str++[.str names[i]]) hv' U2:=a2.other fun l o ho a b c hh=>b5 l o ho fun a' b' c' ho'=>df1 l a b c hh a' b' c' ho'
    have nr2:=hnr.step b4;obtain ⟨hlen2,hrd2⟩:=nr2.rd;obtain ⟨p2,hs1',hs2'⟩:=hrd2 i hlt;obtain ⟨wb,wf,wb',U3,F2,c1,c2,c3,c4,c5,c6,c7,c8,c9⟩:=b3.addB names[i] (by simp;omega) true
    have df2:qfe hv' ov':=fun l a b c hh a' b' c' ho=>by
     rcases b6 l a' b' c' ho with h1|h1
     ·exact df1 l a b c hh _ _ _ h1
     ·have:=dlt l a b c hh;omega
    have hn1:bound++(qad (names.take (i+1)) bound.length).map (·.1)=bound++(qad (names.take i) bound.length).map (·.1)++[names[i]]:=by rw[hsn,qt0,qtN];rfl
    have hn2:((qad (names.take (i+1)) bound.length).map (·.1)).map V.str=((qad (names.take i) bound.length).map (·.1)).map .str++[.str names[i]]:=by rw[hsn,qt0,qt0];rfl
    have hn3:(Scs.flat sc++qad (names.take (i+1)) bound.length).map bndV=(Scs.flat sc++qad (names.take i) bound.length).map bndV++[bndV (names[i],bound.length+(qad (names.take i) bound.length).length)]:=by rw[hsn,←qtN,qt0];rfl
    have c1':=c1;have c3':=c3;unfold wkO at c1' c3';have hbu:qam (.agg [.str ⟨⟨[]⟩⟩,.int .i64 0]) [(0,1,.str names[i]),(1,1,.int .i64 ((bound.length+(qad (names.take i) bound.length).length:Nat):Int))]=some (bndV (names[i],bound.length+(qad (names.take i) bound.length).length)):=by simp[qam,qac,bndV]
    have hwb:ldS U2 (.ptr w 0 0 1) none=some wb:=by
     have:wb.cells=wb.cells:=rfl;simp[ldS,c1']
    push_cast at hbu;simp[hp1,hp2,hfs,a1,qa8,↓qbh,hq1,hq2,r0,hlb,qag,hbu,hfe,b1];refine qbl rfl rfl ?_;simp[qa8,hwb,hs1',hs2',hfs,c2,stS,c3',qac,c4,c5,c6];refine qbl rfl rfl ?_;simp[qaL (n:=(i:Int)+1)];refine ⟨_,?_,_,?_,i+1,hv',ov',F2,D1,rfl,by omega,⟨by rw[hn1];exact c8,b4.trans c9,by rw[hn2];exact had2.step c9,by rw[hn3];exact b2.step c9,hnr.step (b4.trans c9),df2⟩,rfl⟩
    ·omega
    ·exact Env.so (by simp)
  ·have:i=names.length:=by omega
   subst this;simp[↓qbh,hlen];exact ⟨hv,ov,F1,D1,ei,rfl⟩
 rintro e U ⟨hv,ov,F1,D1,ei,g8⟩;simp[g8];have h1:=ei.out;have h2:=ei.rk;rw[qt5] at h1 h2;have hnm:(qad names bound.length).map (·.1)=nms names:=by unfold nms;exact qcX 0 names [] [] _ _ rfl
 rw[hnm] at h2;exact qdZ (Rk.frm r bf bt w fv (bound++nms names) st) rfl h1 h2 ei.st (by rw[←qaI,qm3];rfl)
structure RpOk(r:Rp):Prop where
 le:r.fro.length≤r.to.length
 small:r.to.length≤1000000
theorem qi0:∀(fs:List ByteArray) (es:List Ex) (x:ByteArray),(∀f,f∈fs→f≠x)→mtL fs es x=none
 | [],_,_,_=>by simp[mtL]
 | f::fs,[],_,_=>by simp[mtL]
 | f::fs,e::es,x,h=>by
  rw[mtL,if_neg (h f (List.mem_cons_self ..))];exact qi0 fs es x fun g hg=>h g (qu2 _ hg)
theorem qjw:∀(fs:List ByteArray) (es:List Ex) (x:ByteArray) (i:Nat) (hi:i<fs.length) (hj:i<es.length),fs[i]=x→(∀j,(h:j<fs.length)→j<i→fs[j]≠x)→mtL fs es x=some es[i]
 | f::fs,e::es,x,0,_,_,h,_=>by rw[mtL,if_pos (by simpa using h)];rfl
 | f::fs,e::es,x,i+1,hi,hj,h,g=>by
  rw[mtL,if_neg (by have:=g 0 (by simp) (by omega);simpa using this)]
  exact qjw fs es x i (by simpa using hi) (by simpa using hj) (by simpa using h) fun j hj' hji=>by
   have:=g (j+1) (by simpa using hj') (by omega);simpa using this
theorem Rk.put6{r:Rp}{bf bt:Bool}{w:Nat}{fv:V}{bound:List ByteArray}{st:Rst}{F D:Nat→Prop}{S:St}(h:Rk r bf bt w fv bound st F D S)(c:Bool):
  ∃U,stS S (.ptr w 0 6 1) 1 (.bool c)=some U∧Rk r bf bt w fv bound { st with caught:=c } F D U∧Stp w F D S F D U:=by
 obtain ⟨vb,vf,h1,h2,h3,h4,h5⟩:=h.flag st.bad c;refine ⟨_,?_,h4,h5⟩;obtain ⟨_,_,hw,g1,g2,_⟩:=h.wx;rw[hw] at h1;unfold wkO at hw h1 ⊢;simp only[Option.some.injEq,Ob.arr.injEq,List.cons.injEq,V.agg.injEq] at h1;obtain ⟨⟨⟨rfl,rfl,_⟩,_⟩,_⟩:=h1;simp[stS,hw,qac]
theorem Rk.put5{r:Rp}{bf bt:Bool}{w:Nat}{fv:V}{bound:List ByteArray}{st:Rst}{F D:Nat→Prop}{S:St}(h:Rk r bf bt w fv bound st F D S)(c:Bool):
  ∃U,stS S (.ptr w 0 5 1) 1 (.bool c)=some U∧Rk r bf bt w fv bound { st with bad:=c } F D U∧Stp w F D S F D U:=by
 obtain ⟨vb,vf,h1,h2,h3,h4,h5⟩:=h.flag c st.caught;refine ⟨_,?_,h4,h5⟩;obtain ⟨_,_,hw,g1,g2,_⟩:=h.wx;rw[hw] at h1;unfold wkO at hw h1 ⊢;simp only[Option.some.injEq,Ob.arr.injEq,List.cons.injEq,V.agg.injEq] at h1;obtain ⟨⟨⟨rfl,rfl,_⟩,_⟩,_⟩:=h1;simp[stS,hw,qac]
abbrev exZ:V:=.agg [.int .i64 0,.int .i64 0,.int .i64 0,.int .i64 0,.int .i64 0,.str ⟨⟨[]⟩⟩,.sl true []]
theorem qji:exZ.weak=Ex.z.v:=by simp only[exZ,V.weak,V.weakL,Ex.v_eq];rfl
theorem qiJ:V.part exZ 0 (some 7)=some exZ:=rfl
theorem qek(y:V)(h:y.size=7)(hf:y.cells.all V.flat=true):V.upd exZ 0 7 y=some y:=by unfold exZ;rw[qac];simp[h,hf]
def useV(r:Rp)(sc:Scs)(x:ByteArray):V:=.tup [.str (match rmt r sc x with|some _=>x|none=>rren r sc x),(match rmt r sc x with|some e=>e.v|none=>Ex.z.v),.bool (rmt r sc x).isSome]
def cgt(e:Ex)(sc:Scs)(k:Nat):Bool:=decide (e.kind=6) && ((Scs.flat sc).take k).any fun p=>decide (p.1=e.text)
theorem qnK(e:Ex)(sc:Scs):cgt e sc 0=false:=by simp[cgt]
theorem qnV(e:Ex)(sc:Scs)(k:Nat)(h:k<(Scs.flat sc).length):cgt e sc (k+1)=(cgt e sc k || (decide (e.kind=6) && decide ((Scs.flat sc)[k].1=e.text))):=by
 unfold cgt;rw[qtQ,qtF h,quf,List.any_append];simp only[List.any_cons,List.any_nil,Bool.or_false];cases decide (e.kind=6) <;> simp
theorem qnP(e:Ex)(sc:Scs):cgt e sc (Scs.flat sc).length=(decide (e.kind=6) && (Scs.flat sc).any fun p=>decide (p.1=e.text)):=by
 unfold cgt;rw[qt5]
theorem qmF(r:Rp)(ho:RpOk r)(bf bt:Bool)(w:Nat)(fv:V)(bound:List ByteArray)(st:Rst)(F D:Nat→Prop)(S:St)(hk:Rk r bf bt w fv bound st F D S)(b:Bool)(sc:Scs)(hd:ScD sc)(hl:(Scs.flat sc).length≤1000000)(x:ByteArray)(hfl:st.free.length≤1000000):
  Spec prog 143 [.ptr w 0 0 1,.sl b ((Scs.flat sc).map bndV),.str x] S (fun v U=>Rd' w (Rk r bf bt w fv bound (ruse r sc x st)) F D S (useV r sc x) v U):=by
 refine Spec.intro func143 ok143 (by simp[c143]) ?_;obtain ⟨S1,hS1⟩:∃S1:St,S1=S++[.arr [exZ] 7 1]:=⟨_,rfl⟩;have fm:=Rk.frm r bf bt w fv bound st;have k1:Rk r bf bt w fv bound st F D S1:=by rw[hS1];exact fm.push hk _
 have s1:Stp w F D S F D S1:=by rw[hS1];exact (Stp.refl _ _ _ _).push _
 have b1:S1[S.length]?=some (.arr [exZ] 7 1):=by rw[hS1];simp
 have o1:Off w F D S.length:=fm.out hk (qtJ _);have fin:∀(st':Rst) (F' D':Nat→Prop) (U:St) (y:ByteArray) (ev:V) (z:Ex) (is:Bool) (e:Env),Rk r bf bt w fv bound st' F' D' U→Stp w F D S F' D' U→U[S.length]?=some (.arr [exZ] 7 1)→Off w F' D' S.length→ev.weak=z.v→
   V.part ev 0 (some 7)=some ev→e.get 6=some (.str y)→e.get 7=some (.ptr S.length 0 0 1)→e.get 8=some (.bool is)→
   endp [.t 6,.cell 7 (some 7),.t 8] S.length (fun v U=>Rd' w (Rk r bf bt w fv bound st') F D S (.tup [.str y,z.v,.bool is]) v U) .ret e (U.set S.length (.arr [ev] 7 1)):=fun st' F' D' U y ev z is e hk' hs' hb ho' hw hp g6 g7 g8=>by
  have hset:(U.set S.length (.arr [ev] 7 1))[S.length]?=some (.arr [ev] 7 1):=qtI (glt hb);refine ⟨[.str y,ev,.bool is],by simp[rvs,g6,g7,g8,ldS,hset,hp],_,_,qaW.weak,?_,F',D',(Rk.frm r bf bt w fv bound st').set hk' _ ho',hs'.set _ (qtJ _)⟩;simp only[retV,V.weak,V.weakL,hw]
 have hru:ruse r sc x st=match sc.at x with
  | some _=>st
  | none=>{ free:=st.free++[x],bad:=st.bad,caught:=st.caught || (match mt r x with
   | some e=>decide (e.kind=6) && (Scs.flat sc).any fun p=>decide (p.1=e.text)
   | none=>false) }:=rfl
 have hrm:rmt r sc x=match sc.at x with
  | some _=>none
  | none=>mt r x:=rfl
 have hrr:rren r sc x=match sc.at x with
  | some k=>(r.fresh[k]?).getD x
  | none=>x:=rfl
 simp[c143];show qj5 _ _ _ (S++[.arr [exZ] 7 1]) _;rw[←hS1];refine qaj (qml _ b x hl S1) ?_;unfold plcV;rw[qh4 sc x hd]
 cases hat:sc.at x with
 | some k=>
  rw[hat] at hru hrm;simp only at hru hrm;have hu:useV r sc x=.tup [.str (rren r sc x),Ex.z.v,.bool false]:=by unfold useV;rw[hrm];rfl
  rw[hru,hu];have hk0:(0:Int)≤k:=by omega
  simp[hk0];refine qaj (qgS r bf bt w fv bound st F D S1 k1 b sc hd hl x) ?_;have hbu:qam exZ []=some exZ:=rfl;unfold exZ at hbu;simp[qag,hbu];have hst:stS S1 (.ptr S.length 0 0 1) 7 exZ=some (S1.set S.length (.arr [exZ] 7 1)):=by simp[stS,b1,qek exZ rfl rfl]
  unfold exZ at hst;simp[hst];exact fin st F D S1 (rren r sc x) exZ Ex.z false _ k1 s1 b1 o1 qji qiJ rfl rfl rfl
 | none=>
  rw[hat] at hru hrm hrr;simp only at hru hrm hrr;obtain ⟨vb,vf,vf',U1,F1,a1,a2,a3,a4,a5,a6,k2,s2⟩:=k1.addF x (by omega) true;have hfs:fits 1 [V.str x]=true:=rfl;obtain ⟨U2,hU2⟩:∃U2,U2=U1.set w (wkO r bf bt fv vb vf' st):=⟨_,rfl⟩;rw[←hU2] at k2 s2;have hlf:ldS S1 (.ptr w 0 1 1) none=some vf:=by unfold wkO at a1;simp[ldS,a1]
  have hst:stS U1 (.ptr w 0 1 1) 1 vf'=some U2:=by
   rw[hU2];unfold wkO at a3 ⊢;simp[stS,a3,qac,a4,a5,a6]
  have s3:=s1.trans s2;have b2:=s2.at o1 b1;have o2:=o1.next (glt b1) s2;simp[qa8,hlf,hfs,a2,hst];refine qax (fun e U=>mt r x=none∧U=U2∧e.get 0=some (.ptr w 0 0 1)∧e.get 2=some (.str x)∧e.get 7=some (.ptr S.length 0 0 1)) ?_ ?_
  ·refine qar (fun j e U=>∃i:Nat,j=r.fro.length - i∧i≤r.fro.length∧(∀j,(h:j<r.fro.length)→j<i→r.fro[j]≠x)∧U=U2∧
    e=[(9,.int .i64 i),(0,.ptr w 0 0 1),(1,.sl b ((Scs.flat sc).map bndV)),(2,.str x),(7,.ptr S.length 0 0 1)]) r.fro.length _ ?_ ⟨0,by simp,by omega,by omega,rfl,rfl⟩ ?_
   ·exact Env.so (by simp)
   rintro j e U ⟨i,rfl,hi,hno,rfl,rfl⟩;obtain ⟨_,_,r0,r1,r2,r3,r4,r5,r6⟩:=qdn k2;by_cases hlt:i<r.fro.length
   ·have hia:=qc2 hlt bf U;by_cases heq:r.fro[i]=x
    ·have hj:i<r.to.length:=by have:=ho.le;omega
     have hmt:mt r x=some r.to[i]:=qjw r.fro r.to x i hlt hj heq hno;have hu:useV r sc x=.tup [.str x,r.to[i].v,.bool true]:=by unfold useV;rw[hrm,hmt];rfl
     rw[hu,hru,hmt];rw[heq] at hia;simp[qa8,r3,hlt,hia];obtain ⟨y,hy⟩:∃y,y=r.to[i]:=⟨_,rfl⟩;rw[←hy];refine qax (fun e U=>∃F' D',Rk r bf bt w fv bound { free:=st.free++[x],bad:=st.bad,caught:=st.caught || cgt y sc (Scs.flat sc).length } F' D' U∧Stp w F D S F' D' U∧U[S.length]?=some (.arr [exZ] 7 1)∧Off w F' D' S.length∧e.get 0=some (.ptr w 0 0 1)∧e.get 2=some (.str x)∧e.get 7=some (.ptr S.length 0 0 1)∧e.get 9=some (.int .i64 i)) ?_ ?_
     ·refine qar (fun j e U=>∃(k:Nat) (F' D':Nat→Prop),j=(Scs.flat sc).length - k∧k≤(Scs.flat sc).length∧Rk r bf bt w fv bound { free:=st.free++[x],bad:=st.bad,caught:=st.caught || cgt y sc k } F' D' U∧Stp w F D S F' D' U∧U[S.length]?=some (.arr [exZ] 7 1)∧Off w F' D' S.length∧
       e=[(10,.int .i64 k),(9,.int .i64 i),(0,.ptr w 0 0 1),(1,.sl b ((Scs.flat sc).map bndV)),(2,.str x),(7,.ptr S.length 0 0 1)]) (Scs.flat sc).length _ ?_ ⟨0,F1,D,by simp,by omega,by rw[qnK,Bool.or_false];exact k2,s3,b2,o2,rfl⟩ ?_
      ·exact Env.so (by simp)
      rintro j e U ⟨k,F3,D3,rfl,hk',kU,sU,bU,oU,rfl⟩;obtain ⟨_,_,q0,q1,q2,q3,q4,q5,q6⟩:=qdn kU;by_cases hlk:k<(Scs.flat sc).length
      ·have hib:=qq3 hlk b U;have hie:=iaEx hj bt U;rw[←hy] at hie;obtain ⟨U4,p1,p2,p3⟩:=kU.put6 (st.caught || cgt y sc (k+1));have hcs:=qnV y sc k hlk;have hbn:V.part (bndV (Scs.flat sc)[k]) 0 none=some (.str (Scs.flat sc)[k].1):=rfl;have bU4:=p3.at oU bU;have oU4:=oU.next (glt bU) p3;simp only at q6
       cases hc:(st.caught || cgt y sc k) with
       | true=>
        have hc1:(st.caught || cgt y sc (k+1))=true:=by rw[hcs,←Bool.or_assoc,hc,Bool.true_or]
        rw[hc] at q6;rw[hc1] at p1;simp[hlk,qa8,q6,p1];refine qbl rfl rfl ?_;simp[qaL (n:=(k:Int)+1)];refine ⟨_,?_,_,?_,k+1,rfl,by omega,F3,D3,p2,sU.trans p3,bU4,oU4,rfl⟩
        ·omega
        ·exact Env.so (by simp)
       | false=>
        rw[hc] at q6;have hc1:(st.caught || cgt y sc (k+1))=(decide (y.kind=6) && decide ((Scs.flat sc)[k].1=y.text)):=by rw[hcs,←Bool.or_assoc,hc,Bool.false_or]
        rw[hc1] at p1;by_cases h6:y.kind=6
        ·simp[h6] at p1;simp[hlk,qa8,q6,q4,hie,hib,hbn,h6,p1];refine qbl rfl rfl ?_;simp[qaL (n:=(k:Int)+1)];refine ⟨_,?_,_,?_,k+1,rfl,by omega,F3,D3,p2,sU.trans p3,bU4,oU4,rfl⟩
         ·omega
         ·exact Env.so (by simp)
        ·simp[h6] at p1;simp[hlk,qa8,q6,q4,hie,h6,p1];refine qbl rfl rfl ?_;simp[qaL (n:=(k:Int)+1)];refine ⟨_,?_,_,?_,k+1,rfl,by omega,F3,D3,p2,sU.trans p3,bU4,oU4,rfl⟩
         ·omega
         ·exact Env.so (by simp)
      ·have:k=(Scs.flat sc).length:=by omega
       subst this;simp;exact ⟨F3,D3,kU,sU,bU,oU⟩
     rintro e U ⟨F3,D3,kU,sU,bU,oU,g0,g2,g7,g9⟩;obtain ⟨_,_,q0,q1,q2,q3,q4,q5,q6⟩:=qdn kU;have hie:=iaEx hj bt U;rw[←hy] at hie;have hst2:stS U (.ptr S.length 0 0 1) 7 y.v=some (U.set S.length (.arr [y.v] 7 1)):=by simp[stS,bU,qek y.v (Ex.v_size y) (by simp)]
     simp[g0,g2,g7,g9,qa8,q4,hie,hst2];refine qbl rfl rfl ?_;rw[qnP] at kU;simp;exact fin _ F3 D3 U x y.v y true _ kU sU bU oU (Ex.v_weak y) (qgv y) rfl g7 rfl
    ·simp[qa8,r3,hlt,hia,heq,qaz (n:=(i:Int)+1) (by have:=ho.le;have:=ho.small;omega) (by have:=ho.le;have:=ho.small;omega)];refine ⟨_,?_,_,?_,i+1,rfl,by omega,fun j hj hji=>?_,rfl⟩
     ·omega
     ·exact Env.so (by simp)
     ·by_cases hj':j=i
      ·subst hj';exact heq
      ·exact hno j hj (by omega)
   ·simp[qa8,r3,hlt];refine qi0 _ _ _ fun f hf=>?_
    obtain ⟨j,hj,rfl⟩:=quO hf;exact hno j hj (by omega)
  rintro e U ⟨hmt,rfl,g0,g2,g7⟩;have hu:useV r sc x=.tup [.str x,Ex.z.v,.bool false]:=by unfold useV;rw[hrm,hmt,hrr];rfl
  rw[hmt] at hru;simp only[Bool.or_false] at hru;rw[hu,hru];have hbu:qam exZ []=some exZ:=rfl;have hst2:stS U (.ptr S.length 0 0 1) 7 exZ=some (U.set S.length (.arr [exZ] 7 1)):=by simp[stS,b2,qek exZ rfl rfl]
  unfold exZ at hbu hst2;simp[g2,g7,qag,hbu,hst2];exact fin _ F1 D U x exZ Ex.z false _ k2 s3 b2 o2 qji qiJ rfl g7 rfl
theorem qiE(r:Rp)(sc:Scs)(x:ByteArray)(st:Rst):(ruse r sc x st).free.length≤st.free.length+1:=by
 unfold ruse;cases sc.at x <;> simp
theorem qcO(r:Rp)(sc:Scs)(x:ByteArray)(st:Rst):(qbj r sc x st).free.length≤st.free.length+1:=qiE r sc x st
theorem qcf{α:Type}(f:α→Pa)(l:List α)(i:Nat)(h:i<l.length):qaB ((l.take i).map f)+(f l[i]).size≤qaB (l.map f):=by
 have h1:=qun i l;rw[qu9 h] at h1;have h2:=congrArg (fun m=>qaB (m.map f)) h1;simp only[qt0,qtX,qbb,sizes_cons] at h2;omega
mutual
theorem Ex.rs_len(r:Rp)(sc:Scs):∀(x:Ex) (st:Rst),(x.rs r sc st).free.length≤st.free.length+(Pa.ex x).size
 | .mk k o n m e t a,st=>by
  have hsz:(Pa.ex (.mk k o n m e t a)).size=1+qaB (a.map Pa.ex):=by rw[Pa.size_eq];rfl
  rw[Ex.rs];split
  ·have:=qiE r sc t st;omega
  ·have h1:=Ex.rsl_len r sc a (if k=7∨k=8 then qbj r sc t st else st)
   have h2:(if k=7∨k=8 then qbj r sc t st else st).free.length≤st.free.length+1:=by
    split
    ·exact qcO r sc t st
    ·omega
   omega
theorem Ex.rsl_len(r:Rp)(sc:Scs):∀(l:List Ex) (st:Rst),(Ex.rsl r sc st l).free.length≤st.free.length+qaB (l.map Pa.ex)
 | [],st=>by simp[Ex.rsl]
 | x::l,st=>by
  have h1:=Ex.rs_len r sc x st;have h2:=Ex.rsl_len r sc l (x.rs r sc st);simp only[Ex.rsl,qtX,sizes_cons];omega
end
theorem qnk(r:Rp)(ho:RpOk r)(bf bt:Bool)(w:Nat)(fv:V)(bound:List ByteArray)(st:Rst)(F D:Nat→Prop)(S:St)(hk:Rk r bf bt w fv bound st F D S)(b:Bool)(sc:Scs)(hd:ScD sc)(hl:(Scs.flat sc).length≤1000000)(x:ByteArray)(hfl:st.free.length≤1000000):
  Spec prog 144 [.ptr w 0 0 1,.sl b ((Scs.flat sc).map bndV),.str x] S (fun v U=>Rd' w (Rk r bf bt w fv bound (qbj r sc x st)) F D S (.str (qcr r sc x)) v U):=by
 refine Spec.intro func144 ok144 (by simp[c144]) ?_;have hS:qbj r sc x st={ ruse r sc x st with bad:=(ruse r sc x st).bad || (match rmt r sc x with|some e=>!decide (e.kind=6)|none=>false) }:=rfl;have hT:qcr r sc x=match rmt r sc x with|some e=>if e.kind=6 then e.text else x|none=>rren r sc x:=rfl
 rw[hS,hT];simp[c144];refine qal (qmF r ho bf bt w fv bound st F D S hk b sc hd hl x hfl) ?_;rintro v U ⟨rfl,F1,D1,k1,s1⟩;generalize ruse r sc x st=st1 at k1 ⊢;unfold useV
 cases hm:rmt r sc x with
 | some e=>
  obtain ⟨U2,hU2⟩:∃U2,U2=U++[.arr [e.v] 7 1]:=⟨_,rfl⟩;have k2:Rk r bf bt w fv bound st1 F1 D1 U2:=by rw[hU2];exact (Rk.frm _ _ _ _ _ _ _).push k1 _
  have s2:Stp w F D S F1 D1 U2:=by rw[hU2];exact s1.push _
  have c2:U2[U.length]?=some (.arr [e.v] 7 1):=by rw[hU2];simp
  simp[boxS,evX,stS,qac];rw[←hU2];by_cases h6:e.kind=6
  ·simp[ldS,c2,h6];exact qai rfl ⟨rfl,F1,D1,k2,s2⟩
  ·obtain ⟨_,_,q0,q1,q2,q3,q4,q5,q6⟩:=qdn k2;obtain ⟨U3,p1,p2,p3⟩:=k2.put5 true;have h0:ldS U2 (.ptr U.length 0 0 1) none=some (.int .i64 e.kind):=by simp[ldS,c2]
   have hb:(st1.bad || !decide (e.kind=6))=true:=by simp[h6]
   rw[hb]
   cases hbad:st1.bad with
   | true=>
    rw[hbad] at q5;simp[h0,h6,qa8,q5,p1];exact qai rfl ⟨rfl,F1,D1,p2,s2.trans p3⟩
   | false=>
    rw[hbad] at q5;simp[h0,h6,qa8,q5,p1];exact qai rfl ⟨rfl,F1,D1,p2,s2.trans p3⟩
 | none=>
  obtain ⟨U2,hU2⟩:∃U2,U2=U++[.arr [Ex.z.v] 7 1]:=⟨_,rfl⟩;have k2:Rk r bf bt w fv bound st1 F1 D1 U2:=by rw[hU2];exact (Rk.frm _ _ _ _ _ _ _).push k1 _
  have s2:Stp w F D S F1 D1 U2:=by rw[hU2];exact s1.push _
  simp[boxS,evX,stS,qac];rw[←hU2];obtain ⟨_,_,q0,q1,q2,q3,q4,q5,q6⟩:=qdn k2;obtain ⟨U3,p1,p2,p3⟩:=k2.put5 st1.bad
  cases hbad:st1.bad with
  | true=>
   rw[hbad] at q5 p1 p2;simp[qa8,q5,p1];exact qai rfl ⟨rfl,F1,D1,p2,s2.trans p3⟩
  | false=>
   rw[hbad] at q5 p1 p2;simp[qa8,q5,p1];exact qai rfl ⟨rfl,F1,D1,p2,s2.trans p3⟩
def P92(r:Rp)(bf bt:Bool)(w:Nat)(fv:V)(x:Ex):Prop:=∀(bound:List ByteArray) (st:Rst) (F D:Nat→Prop) (S:St) (b:Bool) (sc:Scs),Rk r bf bt w fv bound st F D S→ScD sc→(Scs.flat sc).length≤1000000→st.free.length+(Pa.ex x).size≤1000000→
 Spec prog 92 [.ptr w 0 0 1,x.v,.sl b ((Scs.flat sc).map bndV)] S (fun v U=>Rd' w (Rk r bf bt w fv bound (x.rs r sc st)) F D S (x.rw r sc).v v U)
theorem qfN(r:Rp)(bf bt:Bool)(w:Nat)(fv:V)(l:List Ex)(H:∀x,x∈l→P92 r bf bt w fv x)(hl:l.length≤4000)(bound:List ByteArray)(st:Rst)(F D:Nat→Prop)(S:St)(bl b:Bool)(sc:Scs)(hk:Rk r bf bt w fv bound st F D S)(hd:ScD sc)(hf:(Scs.flat sc).length≤1000000)(hs:st.free.length+qaB (l.map Pa.ex)≤1000000):
  Spec prog 145 [.ptr w 0 0 1,.sl bl (l.map Ex.v),.sl b ((Scs.flat sc).map bndV)] S (fun v U=>Rd' w (Rk r bf bt w fv bound (Ex.rsl r sc st l)) F D S (.sl false ((Ex.rwl r sc l).map Ex.v)) v U):=by
 refine Spec.intro func145 ok145 (by simp[c145]) ?_;simp[c145];refine qax (WwF w 7 F D S (Rk r bf bt w fv bound (Ex.rsl r sc st l)) 7 ((Ex.rwl r sc l).map Ex.v)) ?_ ?_
 ·refine qar (LwF w 7 F D S l.length (fun i=>Rk r bf bt w fv bound (Ex.rsl r sc st (l.take i))) (fun i=>(Ex.rwl r sc (l.take i)).map Ex.v)
   (fun i gv=>[(8,.int .i64 i),(7,gv),(0,.ptr w 0 0 1),(1,.sl bl (l.map Ex.v)),(2,.sl b ((Scs.flat sc).map bndV))])) l.length _ ?_ ⟨0,_,F,D,by simp,by omega,Gw.nil _ _ _ _ _ _,hk,Stp.refl _ _ _ _,rfl⟩ ?_
  ·exact Env.so (by simp)
  rintro j e U ⟨i,gv,F1,D1,rfl,hi,hg,hk1,hs1,rfl⟩;dsimp only at hg hk1;by_cases hlt:i<l.length
  ·have hst:=qcf Pa.ex l i hlt;have hrl:=Ex.rsl_len r sc (l.take i) st;simp[hlt,iaEx];refine qal (H l[i] (qtR hlt) bound _ F1 D1 U b sc hk1 hd hf (by omega)) ?_;rintro v U2 ⟨rfl,F2,D2,hk2,hs2⟩;have hg2:=hg.step hs2;have hs3:=hs1.trans hs2;obtain ⟨v',U3,ha,hg3,hk3,hs4,_⟩:=hg2.app1F (Rk.frm r bf bt w fv bound _) (bytes:=80) (b:=true) hk2 hs3 (Ex.fits1 (l[i].rw r sc)) (by rw[qtM,Ex.rwl_map,qtM,quE];omega)
   have hn:(Ex.rwl r sc (l.take i)).map Ex.v++[(l[i].rw r sc).v]=(Ex.rwl r sc (l.take (i+1))).map Ex.v:=by
    rw[Ex.rwl_map,Ex.rwl_map,qtQ,qtF hlt,quf,qt0,qt0];rfl
   have hn2:Ex.rs r sc (Ex.rsl r sc st (l.take i)) l[i]=Ex.rsl r sc st (l.take (i+1)):=by
    rw[qtQ,qtF hlt,quf,Ex.rsl_append];rfl
   rw[hn] at hg3;rw[hn2] at hk3;simp[Ex.fits1,ha,qaL (n:=(i:Int)+1)];refine ⟨_,?_,_,?_,i+1,v',F2,D2,rfl,by omega,hg3,hk3,hs4,rfl⟩
   ·omega
   ·exact Env.so (by simp)
  ·have:i=l.length:=by omega
   subst this;simp only[qt5] at hg hk1;simp;exact ⟨gv,F1,D1,rfl,hg,hk1,hs1⟩
 rintro e U ⟨gv,F1,D1,g9,hg,hk1,hs1⟩;simp[g9];exact qdZ (Rk.frm _ _ _ _ _ _ _) rfl hg hk1 hs1 (by rw[←qaI,wEx])
theorem Ex.rs_eq(r:Rp)(sc:Scs)(st:Rst)(x:Ex):x.rs r sc st=if x.kind=6 then ruse r sc x.text st else Ex.rsl r sc (if x.kind=7∨x.kind=8 then qbj r sc x.text st else st) x.args:=by cases x;rw[Ex.rs];rfl
theorem Ex.rw_eq(r:Rp)(sc:Scs)(x:Ex):x.rw r sc=if x.kind=6 then (match rmt r sc x.text with
  | some y=>y
  | none=>.mk 6 0 0 0 0 (rren r sc x.text) [])
 else .mk x.kind x.op x.n x.man x.exp (if x.kind=7∨x.kind=8 then qcr r sc x.text else x.text) (Ex.rwl r sc x.args):=by cases x;rw[Ex.rw];rfl
def qhl(t:ByteArray):V:=.agg [.int .i64 6,.int .i64 0,.int .i64 0,.int .i64 0,.int .i64 0,.str t,.sl true []]
theorem qkv(t:ByteArray):qam exZ [(0,1,.int .i64 6),(5,1,.str t)]=some (qhl t):=by
 unfold qhl;simp[qam,qac]
theorem qm5(t:ByteArray):(qhl t).weak=(Ex.mk 6 0 0 0 0 t []).v:=by
 simp only[qhl,V.weak,V.weakL,Ex.v_eq];rfl
theorem qlM(r:Rp)(ho:RpOk r)(bf bt:Bool)(w:Nat)(fv:V):∀(m:Nat) (x:Ex),(Pa.ex x).size≤m→m≤4000→P92 r bf bt w fv x
 | 0,x,hx,_=>by have:=(Pa.ex x).size_pos;omega
 | m+1,x,hx,hm=>by
  intro bound st F D S b sc hk hd hf hfr;have hsz:(Pa.ex x).size=1+qaB (x.args.map Pa.ex):=by rw[Pa.size_eq];rfl
  have hl:x.args.length≤4000:=by have:=qaT (x.args.map Pa.ex);rw[qtM] at this;omega
  have IH:∀y,y∈x.args→P92 r bf bt w fv y:=fun y hy=>qlM r ho bf bt w fv m y (by
   obtain ⟨i,hi⟩:=que (qug (f:=Pa.ex) hy);have:=qa2 hi;omega) (by omega)
  refine Spec.intro func92 ok92 (by simp[c92]) ?_;obtain ⟨S1,hS1⟩:∃S1:St,S1=S++[.arr [x.v] 7 1,.arr [exZ] 7 1]:=⟨_,rfl⟩;have b0:S1[S.length]?=some (.arr [x.v] 7 1):=by rw[hS1,qtE (by omega)];simp
  have b1:S1[S.length+1]?=some (.arr [exZ] 7 1):=by rw[hS1,qtE (by omega)];simp
  have l1:S1.length=S.length+2:=by rw[hS1];simp
  have fm:=fun bo s=>Rk.frm r bf bt w fv bo s
  have k1:Rk r bf bt w fv bound st F D S1:=by rw[hS1];exact (fm _ _).push hk _
  have s1:Stp w F D S F D S1:=by rw[hS1];exact (Stp.refl _ _ _ _).push _
  have o0:Off w F D S.length:=(fm _ _).out hk (qtJ _);have o1:Off w F D (S.length+1):=(fm _ _).out hk (by omega);have h0:ldS S1 (.ptr S.length 0 0 1) none=some (.int .i64 x.kind):=by simp[ldS,b0]
  have h5:ldS S1 (.ptr S.length 0 5 1) none=some (.str x.text):=by simp[ldS,b0]
  rw[Ex.rs_eq,Ex.rw_eq];have fin:∀(st':Rst) (F' D':Nat→Prop) (U:St) (z:Ex) (o:V) (e:Env),Rk r bf bt w fv bound st' F' D' U→Stp w F D S F' D' U→U[S.length+1]?=some (.arr [exZ] 7 1)→Off w F' D' (S.length+1)→o.weak=z.v→V.part o 0 (some 7)=some o→e.get 6=some (.ptr (S.length+1) 0 0 1)→
    endp [.cell 6 (some 7)] S.length (fun v U=>Rd' w (Rk r bf bt w fv bound st') F D S z.v v U) .ret e (U.set (S.length+1) (.arr [o] 7 1)):=fun st' F' D' U z o e hk' hs' hb ho' hw hp g6=>by
   have hset:(U.set (S.length+1) (.arr [o] 7 1))[S.length+1]?=some (.arr [o] 7 1):=qtI (glt hb);refine ⟨[o],by simp[rvs,g6,ldS,hset,hp],_,_,qaW.weak,?_,F',D',(fm _ _).set hk' _ ho',hs'.set _ (by omega)⟩;simp only[retV,hw]
  simp[c92,boxS];rw[←hS1];by_cases h6:x.kind=6
  ·rw[if_pos h6,if_pos h6];simp[h0,h5,h6];refine qal (qmF r ho bf bt w fv bound st F D S1 k1 b sc hd hf x.text (by omega)) ?_;rintro v U ⟨rfl,F1,D1,k2,s2⟩;have c1:=s2.at o1 b1;have p1:=o1.next (glt b1) s2;have s2':=s1.trans s2;unfold useV
   cases hmt:rmt r sc x.text with
   | some y=>
    obtain ⟨U2,hU2⟩:∃U2,U2=U++[.arr [y.v] 7 1]:=⟨_,rfl⟩;have k3:=(fm _ _).push k2 [.arr [y.v] 7 1];have s3:=s2'.push [.arr [y.v] 7 1];have d1:U2[S.length+1]?=some (.arr [exZ] 7 1):=by rw[hU2];exact gp c1
    have c2:U2[U.length]?=some (.arr [y.v] 7 1):=by rw[hU2];simp
    rw[←hU2] at k3 s3;have hst:stS U2 (.ptr (S.length+1) 0 0 1) 7 y.v=some (U2.set (S.length+1) (.arr [y.v] 7 1)):=by simp[stS,d1,qek y.v (Ex.v_size y) (by simp)]
    have hld:ldS U2 (.ptr U.length 0 0 1) (some 7)=some y.v:=by simp[ldS,c2]
    simp[boxS,evX,stS,qac];rw[←hU2];simp[hld,hst];exact fin _ F1 D1 U2 y y.v _ k3 s3 d1 p1 (Ex.v_weak y) (qgv y) rfl
   | none=>
    obtain ⟨U2,hU2⟩:∃U2,U2=U++[.arr [Ex.z.v] 7 1]:=⟨_,rfl⟩;have k3:=(fm _ _).push k2 [.arr [Ex.z.v] 7 1];have s3:=s2'.push [.arr [Ex.z.v] 7 1];have d1:U2[S.length+1]?=some (.arr [exZ] 7 1):=by rw[hU2];exact gp c1
    rw[←hU2] at k3 s3;have hbu:=qkv (rren r sc x.text);have hst:stS U2 (.ptr (S.length+1) 0 0 1) 7 (qhl (rren r sc x.text))=some (U2.set (S.length+1) (.arr [qhl (rren r sc x.text)] 7 1)):=by simp[stS,d1,qek (qhl (rren r sc x.text)) rfl rfl]
    simp[boxS,evX,stS,qac];rw[←hU2];simp[qag,hbu];simp[hst];exact fin _ F1 D1 U2 _ (qhl (rren r sc x.text)) _ k3 s3 d1 p1 (qm5 _) rfl rfl
  ·rw[if_neg h6,if_neg h6];obtain ⟨S2,hS2⟩:∃S2:St,S2=S1++[.arr [x.v] 7 1]:=⟨_,rfl⟩;have k2:Rk r bf bt w fv bound st F D S2:=by rw[hS2];exact (fm _ _).push k1 _
   have s2:Stp w F D S F D S2:=by rw[hS2];exact s1.push _
   have d0:S2[S.length]?=some (.arr [x.v] 7 1):=by rw[hS2];exact gp b0
   have d1:S2[S.length+1]?=some (.arr [exZ] 7 1):=by rw[hS2];exact gp b1
   have d2:S2[S.length+2]?=some (.arr [x.v] 7 1):=by rw[hS2,qtE (by omega)];simp[l1]
   have o2:Off w F D (S.length+2):=(fm _ _).out hk (by omega);have hld:ldS S1 (.ptr S.length 0 0 1) (some 7)=some x.v:=by simp[ldS,b0]
   have rest:∀(st':Rst) (F' D':Nat→Prop) (U:St) (y:Ex),y.kind=x.kind→y.op=x.op→y.n=x.n→y.man=x.man→y.exp=x.exp→st'.free.length≤st.free.length+1→Rk r bf bt w fv bound st' F' D' U→Stp w F D S F' D' U→U[S.length+1]?=some (.arr [exZ] 7 1)→U[S.length+2]?=some (.arr [y.v] 7 1)→
     Off w F' D' (S.length+1)→Off w F' D' (S.length+2)→∀(Φ:V→St→Prop),(∀(U2 U3 U4:St) (z:Ex),stS U2 (.ptr (S.length+2) 0 6 1) 1 (.sl false ((Ex.rwl r sc x.args).map Ex.v))=some U3→ldS U3 (.ptr (S.length+2) 0 0 1) (some 7)=some z.v→stS U3 (.ptr (S.length+1) 0 0 1) 7 z.v=some U4→
      (∀e:Env,e.get 6=some (.ptr (S.length+1) 0 0 1)→endp [.cell 6 (some 7)] S.length (fun v U=>Rd' w (Rk r bf bt w fv bound (Ex.rsl r sc st' x.args)) F D S (Ex.mk x.kind x.op x.n x.man x.exp y.text (Ex.rwl r sc x.args)).v v U) .ret e U4)→Φ (.sl false ((Ex.rwl r sc x.args).map Ex.v)) U2)→
     qj5 prog 145 [.ptr w 0 0 1,.sl false (x.args.map Ex.v),.sl b ((Scs.flat sc).map bndV)] U Φ:=by
    intro st' F' D' U y y1 y2 y3 y4 y5 hfr' kU sU e1 e2 po1 po2 Φ hΦ;refine qal (qfN r bf bt w fv x.args IH hl bound st' F' D' U false b sc kU hd hf (by omega)) ?_;rintro v U2 ⟨rfl,F2,D2,k3,s3⟩;have f1:=s3.at po1 e1;have f2:=s3.at po2 e2;have po1':=po1.next (glt e1) s3;have po2':=po2.next (glt e2) s3;obtain ⟨z,hz⟩:∃z:Ex,z=.mk x.kind x.op x.n x.man x.exp y.text (Ex.rwl r sc x.args):=⟨_,rfl⟩
    have hst:stS U2 (.ptr (S.length+2) 0 6 1) 1 (.sl false ((Ex.rwl r sc x.args).map Ex.v))=some (U2.set (S.length+2) (.arr [z.v] 7 1)):=by
     simp[stS,f2,qhn,qac,y1,y2,y3,y4,y5,hz];rw[Ex.v_eq];rfl
    have hld2:ldS (U2.set (S.length+2) (.arr [z.v] 7 1)) (.ptr (S.length+2) 0 0 1) (some 7)=some z.v:=by
     have:(U2.set (S.length+2) (.arr [z.v] 7 1))[S.length+2]?=some (.arr [z.v] 7 1):=qtI (glt f2);simp[ldS,this]
    have e1':(U2.set (S.length+2) (.arr [z.v] 7 1))[S.length+1]?=some (.arr [exZ] 7 1):=by rw[qtH (by omega)];exact f1
    have hst2:stS (U2.set (S.length+2) (.arr [z.v] 7 1)) (.ptr (S.length+1) 0 0 1) 7 z.v=some ((U2.set (S.length+2) (.arr [z.v] 7 1)).set (S.length+1) (.arr [z.v] 7 1)):=by simp[stS,e1',qek z.v (Ex.v_size z) (by simp)]
    refine hΦ _ _ _ z hst hld2 hst2 fun e g6=>?_
    rw[←hz];exact fin _ F2 D2 _ z z.v _ ((fm _ _).set k3 _ po2') ((sU.trans s3).set _ (by omega)) e1' po1' (Ex.v_weak z) (qgv z) g6
   simp[h0,h6,hld,boxS,evX,stS,qac];rw[←hS2];have h0':ldS S2 (.ptr S.length 0 0 1) none=some (.int .i64 x.kind):=by simp[ldS,d0]
   have h5':ldS S2 (.ptr S.length 0 5 1) none=some (.str x.text):=by simp[ldS,d0]
   have h6':ldS S2 (.ptr S.length 0 6 1) none=some (.sl false (x.args.map Ex.v)):=by simp[ldS,d0]
   by_cases h78:x.kind=7∨x.kind=8
   ·rw[if_pos h78,if_pos h78];have q:=qnk r ho bf bt w fv bound st F D S2 k2 b sc hd hf x.text (by omega)
    have hc:decide (x.kind=7)=true∨(decide (x.kind=7)=false∧decide (x.kind=8)=true):=by
     by_cases h7:x.kind=7
     ·exact .inl (by simp[h7])
     ·exact .inr ⟨by simp[h7],by simp[h78.resolve_left h7]⟩
    rcases hc with hc|⟨hc,hc2⟩
    all_goals
     simp only[decide_eq_true_eq,decide_eq_false_iff_not] at hc
     try simp only[decide_eq_true_eq] at hc2
     first
      | simp[h0',h5',hc,hc2,l1]
      | simp[h0',h5',hc,l1]
     refine qal q ?_
     rintro v U ⟨rfl,F1,D1,k3,s3⟩
     have e0:=s3.at o0 d0
     have e1:=s3.at o1 d1
     have e2:=s3.at o2 d2
     have po0:=o0.next (glt d0) s3
     have po1:=o1.next (glt d1) s3
     have po2:=o2.next (glt d2) s3
     obtain ⟨y,hy⟩:∃y:Ex,y=.mk x.kind x.op x.n x.man x.exp (qcr r sc x.text) x.args:=⟨_,rfl⟩
     have hst:stS U (.ptr (S.length+2) 0 5 1) 1 (.str (qcr r sc x.text))=some (U.set (S.length+2) (.arr [y.v] 7 1)):=by
      simp[stS,e2,qhn,qac,hy];rw[Ex.v_eq];rfl
     have e0':(U.set (S.length+2) (.arr [y.v] 7 1))[S.length]?=some (.arr [x.v] 7 1):=by rw[qtH (by omega)];exact e0
     have e1':(U.set (S.length+2) (.arr [y.v] 7 1))[S.length+1]?=some (.arr [exZ] 7 1):=by rw[qtH (by omega)];exact e1
     have e2':(U.set (S.length+2) (.arr [y.v] 7 1))[S.length+2]?=some (.arr [y.v] 7 1):=qtI (glt e2)
     have k4:=(fm _ _).set k3 (.arr [y.v] 7 1) po2
     have s4:=(s2.trans s3).set (l:=S.length+2) (.arr [y.v] 7 1) (by omega)
     have ha:ldS (U.set (S.length+2) (.arr [y.v] 7 1)) (.ptr S.length 0 6 1) none=some (.sl false (x.args.map Ex.v)):=by simp[ldS,e0']
     simp[hst,ha]
     have hr:=qcO r sc x.text st
     refine rest _ F1 D1 _ y (by rw[hy];rfl) (by rw[hy];rfl) (by rw[hy];rfl) (by rw[hy];rfl) (by rw[hy];rfl) hr k4 s4 e1' e2' po1 po2 _ ?_
     intro U2 U3 U4 z a1 a2 a3 a4
     have hyt:y.text=qcr r sc x.text:=by rw[hy];rfl
     rw[hyt] at a4
     simp[a1,a2,a3]
     first
      | exact a4 _ rfl
      | (simp only[hc2] at a4;exact a4 _ rfl)
      | (simp only[hc] at a4;exact a4 _ rfl)
   ·rw[if_neg h78,if_neg h78];have h7:x.kind≠7:=fun hh=>h78 (.inl hh)
    have h8:x.kind≠8:=fun hh=>h78 (.inr hh)
    simp[h0',h7,h8,h6'];refine rest st F D S2 x rfl rfl rfl rfl rfl (by omega) k2 s2 d1 d2 o1 o2 _ ?_;intro U2 U3 U4 z a1 a2 a3 a4;simp[l1,a1,a2,a3];exact a4 _ rfl
theorem qkn(l:List Ex)(i:Nat)(h:i<l.length):qeL (l.take (i+1))=(qeL (l.take i) || (decide (l[i].kind≠6) && decide (l[i].kind≠7))):=by
 unfold qeL;rw[qtQ,qtF h,quf,List.any_append];simp
theorem qe6(r:Rp)(ho:RpOk r)(bf bt:Bool)(w:Nat)(fv:V)(l:List Ex)(hl:qaB (l.map Pa.ex)≤4000)(bound:List ByteArray)(st:Rst)(F D:Nat→Prop)(S:St)(bl b:Bool)(sc:Scs)(hk:Rk r bf bt w fv bound st F D S)(hd:ScD sc)(hf:(Scs.flat sc).length≤1000000)(hs:st.free.length+qaB (l.map Pa.ex)≤1000000):
  Spec prog 145 [.ptr w 0 0 1,.sl bl (l.map Ex.v),.sl b ((Scs.flat sc).map bndV)] S (fun v U=>Rd' w (Rk r bf bt w fv bound (Ex.rsl r sc st l)) F D S (.sl false ((Ex.rwl r sc l).map Ex.v)) v U):=
 qfN r bf bt w fv l (fun x hx=>qlM r ho bf bt w fv 4000 x (by
  obtain ⟨i,hi⟩:=que (qug (f:=Pa.ex) hx);have:=qa2 hi;omega) (qtJ _)) (by have:=qaT (l.map Pa.ex);rw[qtM] at this;omega) bound st F D S bl b sc hk hd hf hs
theorem qpw(r:Rp)(ho:RpOk r)(bf bt:Bool)(w:Nat)(fv:V)(l:List Ex)(hl:qaB (l.map Pa.ex)≤4000)(bound:List ByteArray)(st:Rst)(F D:Nat→Prop)(S:St)(bl b:Bool)(sc:Scs)(hk:Rk r bf bt w fv bound st F D S)(hd:ScD sc)(hf:(Scs.flat sc).length≤1000000)(hs:st.free.length+qaB (l.map Pa.ex)≤1000000):
  Spec prog 231 [.ptr w 0 0 1,.sl bl (l.map Ex.v),.sl b ((Scs.flat sc).map bndV)] S (fun v U=>Rd' w (Rk r bf bt w fv bound (tgS r sc st l)) F D S (.sl false ((Ex.rwl r sc l).map Ex.v)) v U):=by
 refine Spec.intro func231 ok231 (by simp[c231]) ?_;have hll:l.length≤4000:=by have:=qaT (l.map Pa.ex);rw[qtM] at this;omega
 simp[c231];refine qal (qe6 r ho bf bt w fv l hl bound st F D S bl b sc hk hd hf hs) ?_;rintro v U ⟨rfl,F1,D1,k1,s1⟩;have hT:tgS r sc st l={ Ex.rsl r sc st l with bad:=(Ex.rsl r sc st l).bad || qeL (Ex.rwl r sc l) }:=rfl;rw[hT];obtain ⟨st1,hst1⟩:∃st1,st1=Ex.rsl r sc st l:=⟨_,rfl⟩;obtain ⟨o,ho'⟩:∃o,o=Ex.rwl r sc l:=⟨_,rfl⟩;have hol:o.length=l.length:=by rw[ho',Ex.rwl_map,qtM]
 rw[←hst1] at k1 ⊢;rw[←ho'];simp;refine qax (fun e U=>Rk r bf bt w fv bound { st1 with bad:=st1.bad || qeL o } F1 D1 U∧Stp w F D S F1 D1 U∧e.get 7=some (.sl false (o.map Ex.v))) ?_ ?_
 ·refine qar (fun j e U=>∃i:Nat,j=o.length - i∧i≤o.length∧Rk r bf bt w fv bound { st1 with bad:=st1.bad || qeL (o.take i) } F1 D1 U∧Stp w F D S F1 D1 U∧
   e=[(8,.int .i64 i),(7,.sl false (o.map Ex.v)),(0,.ptr w 0 0 1)]) o.length _ ?_ ⟨0,by simp,by omega,by simpa[qeL] using k1,s1,rfl⟩ ?_
  ·exact Env.so (by simp)
  rintro j e U ⟨i,rfl,hi,hk1,hs1,rfl⟩;by_cases hlt:i<o.length
  ·have hia:=iaEx hlt false U;obtain ⟨_,_,q0,q1,q2,q3,q4,q5,q6⟩:=qdn hk1;obtain ⟨U2,p1,p2,p3⟩:=hk1.put5 (st1.bad || qeL (o.take (i+1)));have ht:=qkn o i hlt;simp only at q5
   cases hb:st1.bad || qeL (o.take i) with
   | true=>
    have hb1:(st1.bad || qeL (o.take (i+1)))=true:=by rw[ht,←Bool.or_assoc,hb,Bool.true_or]
    rw[hb] at q5;rw[hb1] at p1;simp[hlt,qa8,q5,p1,qaL (n:=(i:Int)+1)];refine ⟨_,?_,_,?_,i+1,rfl,by omega,p2,hs1.trans p3,rfl⟩
    ·omega
    ·exact Env.so (by simp)
   | false=>
    have hb1:(st1.bad || qeL (o.take (i+1)))=(decide (o[i].kind≠6) && decide (o[i].kind≠7)):=by rw[ht,←Bool.or_assoc,hb,Bool.false_or]
    rw[hb] at q5;rw[hb1] at p1;by_cases h6:o[i].kind=6
    ·simp[h6] at p1;simp[hlt,qa8,q5,hia,h6,p1,qaL (n:=(i:Int)+1)];refine ⟨_,?_,_,?_,i+1,rfl,by omega,p2,hs1.trans p3,rfl⟩
     ·omega
     ·exact Env.so (by simp)
    ·simp[h6] at p1;simp[hlt,qa8,q5,hia,h6,p1,qaL (n:=(i:Int)+1)];refine ⟨_,?_,_,?_,i+1,rfl,by omega,p2,hs1.trans p3,rfl⟩
     ·omega
     ·exact Env.so (by simp)
  ·have:i=o.length:=by omega
   subst this;rw[qt5] at hk1;simp;exact ⟨hk1,hs1⟩
 rintro e U ⟨hk1,hs1,g7⟩;simp[g7];exact qai rfl ⟨by rw[ho'];rfl,F1,D1,hk1,hs1⟩
theorem El.rsl_len(r:Rp)(sc:Scs):∀(l:List El) (st:Rst),(El.rsl r sc st l).free.length≤st.free.length+qaB (l.map Pa.el)
 | [],st=>by simp[El.rsl]
 | x::l,st=>by
  have h1:=Ex.rsl_len r sc x.exps st;have h2:=El.rsl_len r sc l (Ex.rsl r sc st x.exps);have h3:(Pa.el x).size=1+qaB (x.exps.map Pa.ex):=by rw[Pa.size_eq];rfl
  have h4:El.rsl r sc st (x::l)=El.rsl r sc (Ex.rsl r sc st x.exps) l:=rfl;rw[h4,qtX,sizes_cons];omega
theorem qlr(r:Rp)(sc:Scs)(st:Rst)(l:List Ex):(tgS r sc st l).free.length≤st.free.length+qaB (l.map Pa.ex):=Ex.rsl_len r sc l st
mutual
theorem Sm.rs_len(r:Rp):∀(s:Sm) (sc:Scs) (n:Nat) (st:Rst),(s.rs r sc n st).free.length≤st.free.length+(Pa.st s).size
 | .mk l k t g e h d b,sc,n,st=>by
  have hsz:=Sm.size_parts (.mk l k t g e h d b);simp only[Sm.labels,Sm.targets,Sm.exps,Sm.elems,Sm.decls,Sm.body] at hsz;rw[Sm.rs];split
  ·have h1:=De.rsl_len r d (qad (qah d b) n::sc) sc (n+(qad (qah d b) n).length) st;have h2:=Sm.rsl_len r b (qad (qah d b) n::sc) (n+(qad (qah d b) n).length+De.nbl d) (De.rsl r (qad (qah d b) n::sc) sc (n+(qad (qah d b) n).length) st d);omega
  ·split
   ·have h2:=Sm.rsl_len r b (qad (qak b) n::sc) (n+(qad (qak b) n).length) st;omega
   ·have h0:(if k=6 then qbj r sc t st else st).free.length≤st.free.length+1:=by
     split
     ·exact qcO r sc t st
     ·omega
    have h1:=qlr r sc (if k=6 then qbj r sc t st else st) g;have h2:=El.rsl_len r sc h (tgS r sc (if k=6 then qbj r sc t st else st) g);have h3:=Ex.rsl_len r sc e (El.rsl r sc (tgS r sc (if k=6 then qbj r sc t st else st) g) h);have h4:=Sm.rs1_len r b sc n (Ex.rsl r sc (El.rsl r sc (tgS r sc (if k=6 then qbj r sc t st else st) g) h) e);omega
theorem De.rs_len(r:Rp):∀(s:De) (own sc:Scs) (n:Nat) (st:Rst),(s.rs r own sc n st).free.length≤st.free.length+(Pa.de s).size
 | .mk k o t nm e fo b,own,sc,n,st=>by
  have hsz:=De.size_parts (.mk k o t nm e fo b);simp only[De.names,De.formals,De.exps,De.body] at hsz;rw[De.rs];split
  ·have h1:=Ex.rsl_len r own e st;have h2:=Sm.rs1_len r b (qad (fo.map Fo.name) n::own) (n+(qad (fo.map Fo.name) n).length) (Ex.rsl r own st e);omega
  ·have h1:=Ex.rsl_len r (if k=2 then sc else own) e st;omega
theorem De.rsl_len(r:Rp):∀(l:List De) (own sc:Scs) (n:Nat) (st:Rst),(De.rsl r own sc n st l).free.length≤st.free.length+qaB (l.map Pa.de)
 | [],own,sc,n,st=>by simp[De.rsl]
 | x::l,own,sc,n,st=>by
  have h1:=De.rs_len r x own sc n st;have h2:=De.rsl_len r l own sc (n+De.nb x) (x.rs r own sc n st);simp only[De.rsl,qtX,sizes_cons];omega
theorem Sm.rsl_len(r:Rp):∀(l:List Sm) (sc:Scs) (n:Nat) (st:Rst),(Sm.rsl r sc n st l).free.length≤st.free.length+qaB (l.map Pa.st)
 | [],sc,n,st=>by simp[Sm.rsl]
 | x::l,sc,n,st=>by
  have h1:=Sm.rs_len r x sc n st;have h2:=Sm.rsl_len r l sc (n+Sm.nb x) (x.rs r sc n st);simp only[Sm.rsl,qtX,sizes_cons];omega
theorem Sm.rs1_len(r:Rp):∀(l:List Sm) (sc:Scs) (n:Nat) (st:Rst),(Sm.rs1 r sc n st l).free.length≤st.free.length+qaB (l.map Pa.st)
 | [],sc,n,st=>by simp[Sm.rs1]
 | x::l,sc,n,st=>by
  have h1:=Sm.rs_len r x (qad x.labels n::sc) (n+(qad x.labels n).length) st;have h2:=Sm.rs1_len r l sc (n+(qad x.labels n).length+Sm.nb x) (x.rs r (qad x.labels n::sc) (n+(qad x.labels n).length) st);simp only[Sm.rs1,qtX,sizes_cons];omega
end
theorem qfj(l:List ByteArray)(n:Nat):(nms l).length=(qad l n).length:=by rw[qbx];exact qa1 l 0 n
theorem qmB(s:Sco)(sc:Scs):(Scs.flat (s::sc)).length=(Scs.flat sc).length+s.length:=by simp[Scs.flat]
theorem Rk.real{r:Rp}{bf bt:Bool}{w:Nat}{fv:V}{bound:List ByteArray}{st:Rst}{F D:Nat→Prop}{S:St}(h:Rk r bf bt w fv bound st F D S)(bound':List ByteArray)(st':Rst):∃F' D' U,Rk r bf bt w fv bound' st' F' D' U∧Stp w F D S F' D' U:=by
 have hlw:=h.lw;obtain ⟨U,hU⟩:∃U:St,U=(S++[Ob.arr (bound'.map V.str) 1 0,Ob.arr (st'.free.map V.str) 1 0]).set w (wkO r bf bt fv (.arr S.length 0 bound'.length bound'.length) (.arr (S.length+1) 0 st'.free.length st'.free.length) st'):=⟨_,rfl⟩;have u0:U[S.length]?=some (.arr (bound'.map .str) 1 0):=by rw[hU,qtH (by omega),qtE (by omega)];simp
 have u1:U[S.length+1]?=some (.arr (st'.free.map .str) 1 0):=by rw[hU,qtH (by omega),qtE (by omega)];simp
 have uw:U[w]?=some (wkO r bf bt fv (.arr S.length 0 bound'.length bound'.length) (.arr (S.length+1) 0 st'.free.length st'.free.length) st'):=by rw[hU,qtI (by simp;omega)]
 have uo:∀l o,l≠w→S[l]?=some o→U[l]?=some o:=fun l o hl ho=>by rw[hU,qtH (Ne.symm hl)];exact gpp ho
 have lU:U.length=S.length+2:=by rw[hU];simp
 refine ⟨fun l=>F l∨l=S.length∨l=S.length+1,D,U,⟨⟨_,_,uw,.inr ⟨S.length,0,.inr (.inl rfl),by omega,rfl,u0,by omega⟩,.inr ⟨S.length+1,0,.inr (.inr rfl),by omega,rfl,u1,by omega⟩,?_⟩,h.fr.keep fun l o hl ho=>uo l o (fun hh=>h.nD (hh ▸ hl)) ho,?_,?_,h.nD,?_,by omega⟩,⟨?_,?_⟩,?_,grow.refl _ _⟩
 ·intro l a b c hb a' b' c' hf;simp only[V.arr.injEq] at hb hf;omega
 ·rintro l ((hl|rfl|rfl)|hl)
  ·have:=h.lt l (.inl hl);omega
  ·omega
  ·omega
  ·have:=h.lt l (.inr hl);omega
 ·rintro (hf|hf|hf)
  ·exact h.nF hf
  ·omega
  ·omega
 ·rintro l (hl|rfl|rfl) hd
  ·exact h.di l hl hd
  ·have:=h.lt _ (.inr hd);omega
  ·have:=h.lt _ (.inr hd);omega
 ·omega
 ·intro l hl hn;rw[hU,qtH (fun hh=>hn (.inl hh.symm)),qtG hl]
 ·rintro l (hl|hl|hl)
  ·exact .inl hl
  ·exact .inr (by omega)
  ·exact .inr (by omega)
structure Okw(bound:List ByteArray)(st:Rst)(sc:Scs)(nb size:Nat):Prop where
 nd:ScD sc
 fl:(Scs.flat sc).length≤bound.length
 bo:bound.length+nb≤50000
 fr:st.free.length+size≤1000000
def P194(r:Rp)(bf bt:Bool)(w:Nat)(fv:V)(s:Sm):Prop:=∀(bound:List ByteArray) (st:Rst) (F D:Nat→Prop) (S:St) (b:Bool) (sc:Scs),Rk r bf bt w fv bound st F D S→Okw bound st sc s.nb (Pa.st s).size→
 Spec prog 194 [.ptr w 0 0 1,s.v,.sl b ((Scs.flat sc).map bndV)] S (fun v U=>Rd' w (Rk r bf bt w fv (bound++s.bn) (s.rs r sc bound.length st)) F D S (s.rw r sc bound.length).v v U)
theorem qoj(l:List Sm)(i:Nat)(h:i<l.length):Sm.nbl (l.take (i+1))=Sm.nbl (l.take i)+l[i].nb∧Sm.nbl (l.take (i+1))≤Sm.nbl l:=by
 have ht:l.take (i+1)=l.take i++[l[i]]:=by rw[qtQ,qtF h];rfl
 refine ⟨by rw[ht,Sm.nbl_append];simp[Sm.nbl],?_⟩;have:Sm.nbl l=Sm.nbl (l.take (i+1))+Sm.nbl (l.drop (i+1)):=by rw[←Sm.nbl_append,qun]
 omega
theorem qoe(l:List Sm)(i:Nat)(h:i<l.length):Sm.nb1 (l.take (i+1))=Sm.nb1 (l.take i)+((qad l[i].labels 0).length+l[i].nb)∧Sm.nb1 (l.take (i+1))≤Sm.nb1 l:=by
 have ht:l.take (i+1)=l.take i++[l[i]]:=by rw[qtQ,qtF h];rfl
 refine ⟨by rw[ht,Sm.nb1_append];simp[Sm.nb1],?_⟩;have:Sm.nb1 l=Sm.nb1 (l.take (i+1))+Sm.nb1 (l.drop (i+1)):=by rw[←Sm.nb1_append,qun]
 omega
theorem qf9(r:Rp)(bf bt:Bool)(w:Nat)(fv:V)(l:List Sm)(H:∀s,s∈l→P194 r bf bt w fv s)(hl:l.length≤4000)(bound:List ByteArray)(st:Rst)(F D:Nat→Prop)(S:St)(bl b:Bool)(sc:Scs)(hk:Rk r bf bt w fv bound st F D S)(ok:Okw bound st sc (Sm.nbl l) (qaB (l.map Pa.st))):
  Spec prog 161 [.ptr w 0 0 1,.sl bl (l.map Sm.v),.sl b ((Scs.flat sc).map bndV)] S (fun v U=>Rd' w (Rk r bf bt w fv (bound++Sm.bnl l) (Sm.rsl r sc bound.length st l)) F D S (.sl false ((Sm.rwl r sc bound.length l).map Sm.v)) v U):=by
 refine Spec.intro func161 ok161 (by simp[c161]) ?_;simp[c161];refine qax (WwF w 8 F D S (Rk r bf bt w fv (bound++Sm.bnl l) (Sm.rsl r sc bound.length st l)) 7 ((Sm.rwl r sc bound.length l).map Sm.v)) ?_ ?_
 ·refine qar (LwF w 8 F D S l.length (fun i=>Rk r bf bt w fv (bound++Sm.bnl (l.take i)) (Sm.rsl r sc bound.length st (l.take i))) (fun i=>(Sm.rwl r sc bound.length (l.take i)).map Sm.v)
   (fun i gv=>[(8,.int .i64 i),(7,gv),(0,.ptr w 0 0 1),(1,.sl bl (l.map Sm.v)),(2,.sl b ((Scs.flat sc).map bndV))])) l.length _ ?_ ⟨0,_,F,D,by simp,by omega,Gw.nil _ _ _ _ _ _,by simpa[Sm.bnl,Sm.rsl] using hk,Stp.refl _ _ _ _,rfl⟩ ?_
  ·exact Env.so (by simp)
  rintro j e U ⟨i,gv,F1,D1,rfl,hi,hg,hk1,hs1,rfl⟩;dsimp only at hg hk1;by_cases hlt:i<l.length
  ·have hst:=qcf Pa.st l i hlt;have hrl:=Sm.rsl_len r (l.take i) sc bound.length st;obtain ⟨n1,n2⟩:=qoj l i hlt;have hbl:(bound++Sm.bnl (l.take i)).length=bound.length+Sm.nbl (l.take i):=by rw[qtS,Sm.bnl_length]
   have ht:l.take (i+1)=l.take i++[l[i]]:=by rw[qtQ,qtF hlt];rfl
   have q:=H l[i] (qtR hlt) _ _ F1 D1 U b sc hk1 ⟨ok.nd,by have:=ok.fl;omega,by have:=ok.bo;omega,by have:=ok.fr;omega⟩;rw[hbl] at q;simp[hlt,iaSm];refine qal q ?_;rintro v U2 ⟨rfl,F2,D2,hk2,hs2⟩;have hg2:=hg.step hs2;have hs3:=hs1.trans hs2;obtain ⟨v',U3,ha,hg3,hk3,hs4,_⟩:=hg2.app1F (Rk.frm r bf bt w fv _ _) (bytes:=168) (b:=true) hk2 hs3 (Sm.fits1 (l[i].rw r sc (bound.length+Sm.nbl (l.take i)))) (by rw[qtM,qmh,quE];omega)
   have hn1:(Sm.rwl r sc bound.length (l.take i)).map Sm.v++[(l[i].rw r sc (bound.length+Sm.nbl (l.take i))).v]=(Sm.rwl r sc bound.length (l.take (i+1))).map Sm.v:=by
    rw[ht,Sm.rwl_append,qt0];rfl
   have hn2:Sm.rs r sc (bound.length+Sm.nbl (l.take i)) (Sm.rsl r sc bound.length st (l.take i)) l[i]=Sm.rsl r sc bound.length st (l.take (i+1)):=by
    rw[ht,Sm.rsl_append];rfl
   have hn3:bound++Sm.bnl (l.take i)++l[i].bn=bound++Sm.bnl (l.take (i+1)):=by
    rw[ht,Sm.bnl_append,qtN];simp[Sm.bnl]
   rw[hn1] at hg3;rw[hn2,hn3] at hk3;simp[Sm.fits1,ha,qaL (n:=(i:Int)+1)];refine ⟨_,?_,_,?_,i+1,v',F2,D2,rfl,by omega,hg3,hk3,hs4,rfl⟩
   ·omega
   ·exact Env.so (by simp)
  ·have:i=l.length:=by omega
   subst this;simp only[qt5] at hg hk1;simp;exact ⟨gv,F1,D1,rfl,hg,hk1,hs1⟩
 rintro e U ⟨gv,F1,D1,g9,hg,hk1,hs1⟩;simp[g9];exact qdZ (Rk.frm _ _ _ _ _ _ _) rfl hg hk1 hs1 (by rw[←qaI,wSm])
theorem Okw.enter{bound:List ByteArray}{st:Rst}{sc:Scs}{nb size m:Nat}(ok:Okw bound st sc nb size)(l:List ByteArray)(h:(qad l 0).length+m≤nb):Okw (bound++nms l) st (qad l bound.length::sc) m size:=by
 have h1:=qfj l 0;have h2:=qfj l bound.length;refine ⟨ok.nd.bind l _,?_,?_,ok.fr⟩
 ·rw[qmB,qtS];have:=ok.fl;omega
 ·rw[qtS];have:=ok.bo;omega
theorem qc4:∀l:List Sm,(qak l).length≤qaB (l.map Pa.st)
 | []=>by simp[qak]
 | x::m=>by
  have ih:=qc4 m;have:=Sm.size_parts x;simp only[qak,quB,qtS,qtX,sizes_cons] at ih ⊢;omega
theorem qeu(r:Rp)(bf bt:Bool)(w:Nat)(fv:V)(l:List Sm)(H:∀s,s∈l→P194 r bf bt w fv s)(hl:qaB (l.map Pa.st)≤4000)(bound:List ByteArray)(st:Rst)(F D:Nat→Prop)(S:St)(bl b:Bool)(sc:Scs)(hk:Rk r bf bt w fv bound st F D S)(ok:Okw bound st sc ((qad (qak l) 0).length+Sm.nbl l) (qaB (l.map Pa.st))):
  Spec prog 117 [.ptr w 0 0 1,.sl bl (l.map Sm.v),.sl b ((Scs.flat sc).map bndV)] S (fun v U=>Rd' w (Rk r bf bt w fv (bound++(nms (qak l)++Sm.bnl l)) (Sm.rsl r (qad (qak l) bound.length::sc) (bound.length+(qad (qak l) bound.length).length) st l)) F D S (.sl false ((Sm.rwl r (qad (qak l) bound.length::sc) (bound.length+(qad (qak l) bound.length).length) l).map Sm.v)) v U):=by
 refine Spec.intro func117 ok117 (by simp[c117]) ?_;have hlen:l.length≤4000:=by have:=qaT (l.map Pa.st);rw[qtM] at this;omega
 have hlab:=qc4 l;have hbl:(bound++nms (qak l)).length=bound.length+(qad (qak l) bound.length).length:=by rw[qtS,qfj _ bound.length]
 simp[c117];refine qal (qlW l hl bl w _ (Rk.frm r bf bt w fv bound st) F D S hk) ?_;rintro v U ⟨rfl,F1,D1,k1,s1⟩;simp;have hflo:=ok.fl;have hbo:=ok.bo;refine qal (qik r bf bt w fv bound st F1 D1 U k1 b sc (qak l) _ (.inl ⟨false,rfl⟩) (by omega) (by omega)) ?_;rintro v U2 ⟨rfl,F2,D2,k2,s2⟩;simp;have q:=qf9 r bf bt w fv l H hlen _ st F2 D2 U2 bl false (qad (qak l) bound.length::sc) k2 (ok.enter (qak l) (qtJ _));rw[hbl,qtN] at q;refine qal q ?_;rintro v U3 ⟨rfl,F3,D3,k3,s3⟩;simp;exact qai rfl ⟨rfl,F3,D3,k3,(s1.trans s2).trans s3⟩
theorem qfW(r:Rp)(bf bt:Bool)(w:Nat)(fv:V)(l:List Sm)(H:∀s,s∈l→P194 r bf bt w fv s)(hl:qaB (l.map Pa.st)≤4000)(bound:List ByteArray)(st:Rst)(F D:Nat→Prop)(S:St)(bl b:Bool)(sc:Scs)(hk:Rk r bf bt w fv bound st F D S)(ok:Okw bound st sc (Sm.nb1 l) (qaB (l.map Pa.st))):
  Spec prog 232 [.ptr w 0 0 1,.sl bl (l.map Sm.v),.sl b ((Scs.flat sc).map bndV)] S (fun v U=>Rd' w (Rk r bf bt w fv (bound++Sm.bn1 l) (Sm.rs1 r sc bound.length st l)) F D S (.sl false ((Sm.rw1 r sc bound.length l).map Sm.v)) v U):=by
 refine Spec.intro func232 ok232 (by simp[c232]) ?_;have hlen:l.length≤4000:=by have:=qaT (l.map Pa.st);rw[qtM] at this;omega
 simp[c232];refine qax (WwF w 8 F D S (Rk r bf bt w fv (bound++Sm.bn1 l) (Sm.rs1 r sc bound.length st l)) 7 ((Sm.rw1 r sc bound.length l).map Sm.v)) ?_ ?_
 ·refine qar (LwF w 8 F D S l.length (fun i=>Rk r bf bt w fv (bound++Sm.bn1 (l.take i)) (Sm.rs1 r sc bound.length st (l.take i))) (fun i=>(Sm.rw1 r sc bound.length (l.take i)).map Sm.v)
   (fun i gv=>[(8,.int .i64 i),(7,gv),(0,.ptr w 0 0 1),(1,.sl bl (l.map Sm.v)),(2,.sl b ((Scs.flat sc).map bndV))])) l.length _ ?_ ⟨0,_,F,D,by simp,by omega,Gw.nil _ _ _ _ _ _,by simpa[Sm.bn1,Sm.rs1] using hk,Stp.refl _ _ _ _,rfl⟩ ?_
  ·exact Env.so (by simp)
  rintro j e U ⟨i,gv,F1,D1,rfl,hi,hg,hk1,hs1,rfl⟩;dsimp only at hg hk1;by_cases hlt:i<l.length
  ·have hst:=qcf Pa.st l i hlt;have hrl:=Sm.rs1_len r (l.take i) sc bound.length st;obtain ⟨n1,n2⟩:=qoe l i hlt;have hbl:(bound++Sm.bn1 (l.take i)).length=bound.length+Sm.nb1 (l.take i):=by rw[qtS,Sm.bn1_length]
   have ht:l.take (i+1)=l.take i++[l[i]]:=by rw[qtQ,qtF hlt];rfl
   have hlab:qak [l[i]]=l[i].labels:=by simp[qak]
   have q:=qeu r bf bt w fv [l[i]] (fun s hs=>by simp at hs;subst hs;exact H _ (qtR hlt)) (by simp;omega) _ _ F1 D1 U true b sc hk1 ⟨ok.nd,by have:=ok.fl;omega,by have:=ok.bo;rw[hlab];simp only[Sm.nbl];omega,by have:=ok.fr;simp;omega⟩;rw[hbl,hlab] at q;simp only[qtX,qu4,Sm.bnl,Sm.rsl,Sm.rwl,quG] at q;simp[hlt,iaSm,Sm.fits1];refine qal q ?_;rintro v U2 ⟨rfl,F2,D2,hk2,hs2⟩;have hg2:=hg.step hs2;have hs3:=hs1.trans hs2;obtain ⟨v',U3,ha,hg3,hk3,hs4,_⟩:=hg2.app1F (Rk.frm r bf bt w fv _ _) (bytes:=168) (b:=false) hk2 hs3 (Sm.fits1 (l[i].rw r (qad l[i].labels (bound.length+Sm.nb1 (l.take i))::sc) (bound.length+Sm.nb1 (l.take i)+(qad l[i].labels (bound.length+Sm.nb1 (l.take i))).length))) (by rw[qtM,qlp,quE];omega)
   have hn1:(Sm.rw1 r sc bound.length (l.take i)).map Sm.v++[(l[i].rw r (qad l[i].labels (bound.length+Sm.nb1 (l.take i))::sc) (bound.length+Sm.nb1 (l.take i)+(qad l[i].labels (bound.length+Sm.nb1 (l.take i))).length)).v]=(Sm.rw1 r sc bound.length (l.take (i+1))).map Sm.v:=by
    rw[ht,Sm.rw1_append,qt0];rfl
   have hn2:Sm.rs r (qad l[i].labels (bound.length+Sm.nb1 (l.take i))::sc) (bound.length+Sm.nb1 (l.take i)+(qad l[i].labels (bound.length+Sm.nb1 (l.take i))).length) (Sm.rs1 r sc bound.length st (l.take i)) l[i]=Sm.rs1 r sc bound.length st (l.take (i+1)):=by
    rw[ht,Sm.rs1_append];rfl
   have hn3:bound++Sm.bn1 (l.take i)++(nms l[i].labels++l[i].bn)=bound++Sm.bn1 (l.take (i+1)):=by
    rw[ht,Sm.bn1_append,qtN];simp[Sm.bn1]
   rw[hn1] at hg3;rw[hn2,hn3] at hk3;simp[ha,qaL (n:=(i:Int)+1)];refine ⟨_,?_,_,?_,i+1,v',F2,D2,rfl,by omega,hg3,hk3,hs4,rfl⟩
   ·omega
   ·exact Env.so (by simp)
  ·have:i=l.length:=by omega
   subst this;simp only[qt5] at hg hk1;simp;exact ⟨gv,F1,D1,rfl,hg,hk1,hs1⟩
 rintro e U ⟨gv,F1,D1,g9,hg,hk1,hs1⟩;simp[g9];exact qdZ (Rk.frm _ _ _ _ _ _ _) rfl hg hk1 hs1 (by rw[←qaI,wSm])
def Gx(sz n0 w:Nat)(F D:Nat→Prop)(xs:List V)(v:V)(S:St):Prop:=(∃b,v=.sl b xs)∨Gw sz n0 w F D xs v S
theorem Gw.flatV{sz n0 w:Nat}{F D:Nat→Prop}{xs:List V}{v:V}{S:St}(h:Gw sz n0 w F D xs v S):v.cells=[v]∧v.flat=true∧v.size=1:=by
 rcases h with ⟨rfl,rfl⟩|⟨l,wr,h1,h2,rfl,h4,h5⟩ <;> exact ⟨rfl,rfl,rfl⟩
theorem Gx.flatV{sz n0 w:Nat}{F D:Nat→Prop}{xs:List V}{v:V}{S:St}(h:Gx sz n0 w F D xs v S):v.cells=[v]∧v.flat=true∧v.size=1:=by
 rcases h with ⟨b,rfl⟩| h
 ·exact ⟨rfl,rfl,rfl⟩
 ·exact h.flatV
theorem Gw.ne{sz sz' n0 n0' w w':Nat}{F D F' D':Nat→Prop}{xs xs':List V}{v v':V}{S:St}(h:Gw sz n0 w F D xs v S)(h':Gw sz' n0' w' F' D' xs' v' S)(hs:sz≠sz'):∀l a b c a' b' c',v=.arr l a b c→v'≠.arr l a' b' c':=by
 rintro l a b c a' b' c' rfl rfl;rcases h with ⟨_,h⟩|⟨l',wr,h1,h2,h3,h4,h5⟩
 ·cases h
 ·cases h3;rcases h' with ⟨_,h⟩|⟨l',wr',g1,g2,g3,g4,g5⟩
  ·cases h
  ·cases g3;rw[h4] at g4;cases g4;exact hs rfl
theorem Gx.ne{sz sz' n0 n0' w w':Nat}{F D F' D':Nat→Prop}{xs xs':List V}{v v':V}{S:St}(h:Gx sz n0 w F D xs v S)(h':Gx sz' n0' w' F' D' xs' v' S)(hs:sz≠sz'):∀l a b c a' b' c',v=.arr l a b c→v'≠.arr l a' b' c':=by
 intro l a b c a' b' c' hv hv';rcases h with ⟨_,h⟩| h
 ·rw[hv] at h;cases h
 ·rcases h' with ⟨_,h'⟩|h'
  ·rw[hv'] at h';cases h'
  ·exact h.ne h' hs l a b c a' b' c' hv hv'
def Nf(rf v:V):Prop:=∀l a b c,rf=.arr l a b c→∀xs wr,v.frz l xs wr=v
theorem Nf.under{rf v:V}(h:v.under 0=true):Nf rf v:=fun _ _ _ _ _ _ _=>V.frz_id v h
theorem Nf.gx{sz sz' n0 n0' w w':Nat}{F D F' D':Nat→Prop}{xs xs':List V}{v v':V}{S:St}(h:Gx sz n0 w F D xs v S)(h':Gx sz' n0' w' F' D' xs' v' S)(hs:sz≠sz')(hx:V.underL 0 xs'=true):Nf v v':=by
 intro l a b c hv ys wr;rcases h' with ⟨b',rfl⟩|h'
 ·exact V.frz_id _ (by simpa[V.under] using hx)
 ·rcases h' with ⟨_,rfl⟩|⟨l',wr',g1,g2,rfl,g4,g5⟩
  ·rfl
  ·have:=h.ne (sz':=sz') (n0':=n0') (w':=w') (F':=F') (D':=D') (xs':=xs') (v':=.arr l' 0 xs'.length xs'.length) (.inr (.inr ⟨l',wr',g1,g2,rfl,g4,g5⟩)) hs l a b c 0 xs'.length xs'.length hv;simp only[V.frz];rw[if_neg];rintro ⟨rfl,_⟩;exact this rfl
theorem Gx.other{sz n0 w:Nat}{F D:Nat→Prop}{xs:List V}{v:V}{S U:St}(h:Gx sz n0 w F D xs v S)(hk:∀l o,S[l]?=some o→(∀a b c,v=.arr l a b c→U[l]?=some o)):Gx sz n0 w F D xs v U:=h.imp id fun h=>h.other hk
theorem Gx.frz{w:Nat}{P:(Nat→Prop)→(Nat→Prop)→St→Prop}(fm:Frm w P){sz n0:Nat}{F0 D0 F D:Nat→Prop}{xs:List V}{rf:V}{S0 U:St}(h:Gx sz n0 w F D xs rf U)(k:P F D U)(s:Stp w F0 D0 S0 F D U)(hn:S0.length≤n0)(hx:V.underL 0 xs=true)(hw:V.weakL xs=xs):
  ∃rf' U',rf'.under 0=true∧rf'.weak=.sl false xs∧(∀a b,(∀v,v∈a→Nf rf v)→(∀v,v∈b→Nf rf v)→qaW S0.length (.agg (a++rf::b)) U (.agg (a++rf'::b)) U')∧P F D U'∧Stp w F0 D0 S0 F D U'∧
   ∀l o,U[l]?=some o→(∀a b c,rf≠.arr l a b c)→U'[l]?=some o:=by
 have pure:∀b,rf=.sl b xs→_:=fun b hb=>(⟨rf,U,by rw[hb];simpa[V.under] using hx,by rw[hb];simp[V.weak,hw],fun _ _ _ _=>qaW.refl _ _ _,k,s,fun l o ho _=>ho⟩:
  ∃rf' U',rf'.under 0=true∧rf'.weak=.sl false xs∧(∀a b,(∀v,v∈a→Nf rf v)→(∀v,v∈b→Nf rf v)→qaW S0.length (.agg (a++rf::b)) U (.agg (a++rf'::b)) U')∧P F D U'∧Stp w F0 D0 S0 F D U'∧
   ∀l o,U[l]?=some o→(∀a b c,rf≠.arr l a b c)→U'[l]?=some o)
 rcases h with ⟨b,rfl⟩| h
 ·exact pure b rfl
 rcases h with ⟨rfl,rfl⟩|⟨l,wr,h1,h2,rfl,h3,h4⟩
 ·exact pure true rfl
 ·refine ⟨.sl false xs,U.set l .dead,by simpa[V.under] using hx,by simp[V.weak,hw],fun a b ha hb=>?_,fm.set k _ h2,s.set _ (by omega),fun l' o ho hne=>?_⟩
  ·have g1:=qaW.freezeV (n:=S0.length) (r:=.agg (a++.arr l 0 xs.length xs.length::b)) h3
   have hz:V.frz l xs wr (.agg (a++.arr l 0 xs.length xs.length::b))=.agg (a++.sl false xs::b):=by
    have ea:a.map (V.frz l xs wr)=a:=by
     conv=>rhs;rw[←List.map_id a]
     exact List.map_congr_left fun v hv=>ha v hv l _ _ _ rfl xs wr
    have eb:b.map (V.frz l xs wr)=b:=by
     conv=>rhs;rw[←List.map_id b]
     exact List.map_congr_left fun v hv=>hb v hv l _ _ _ rfl xs wr
    simp only[V.frz,qcd,qt0,qtX];rw[ea,eb,if_pos (by simp[h4])];simp
   rw[hz] at g1;exact g1
  ·rw[qtH (by rintro rfl;exact hne _ _ _ rfl)];exact ho
theorem qtr{w:Nat}{P:(Nat→Prop)→(Nat→Prop)→St→Prop}(fm:Frm w P){n0 n1:Nat}{F0 D0 F D:Nat→Prop}{S0 U:St}{kd ty:Int}{ow:Bool}{nm:List ByteArray}{ex:List Ex}{fo:List Fo}{bo:List Sm}{nv fv:V}{c:Nat}{e:Env}{o:Nat}(hc:U[o]?=some (.arr [.agg [.int .i64 kd,.bool ow,.int .i64 ty,nv,.sl false (ex.map Ex.v),fv,.sl false (bo.map Sm.v)]] 7 1))(he:e.get c=some (.ptr o 0 0 1))
  (h1:Gx 1 n0 w F D (nm.map .str) nv U) (h2:Gx 4 n1 w F D (fo.map Fo.v) fv U) (hn:S0.length≤n0) (hn':S0.length≤n1) (k:P F D U) (s:Stp w F0 D0 S0 F D U):
  endp [.cell c (some 7)] S0.length (fun r U=>Rd' w P F0 D0 S0 (De.mk kd ow ty nm ex fo bo).v r U) .ret e U:=by
 obtain ⟨nv',U1,a1,a2,a3,a4,a5,a6⟩:=h1.frz fm k s hn (by simpa[V.under] using qem false nm) (wStr nm);have h2':Gx 4 n1 w F D (fo.map Fo.v) fv U1:=h2.other fun l o ho a b c hv=>a6 l o ho fun a' b' c' hh=>h1.ne h2 (by omega) l a' b' c' a b c hh hv
 obtain ⟨fv',U2,b1,b2,b3,b4,b5,b6⟩:=h2'.frz fm a4 a5 hn' (by simpa[V.under] using vl_under Fo.v_under false fo) (wFo fo)
 have g1:=a3 [.int .i64 kd,.bool ow,.int .i64 ty] [.sl false (ex.map Ex.v),fv,.sl false (bo.map Sm.v)] (by
  intro v hv;simp at hv
  rcases hv with rfl|rfl|rfl <;> exact Nf.under rfl) (by
  intro v hv;simp only[qt4,quV,or_false] at hv;rcases hv with rfl|rfl|rfl
  ·exact Nf.under (vl_under Ex.v_under _ _)
  ·exact Nf.gx h1 h2 (by omega) (by simpa[V.under] using vl_under Fo.v_under false fo)
  ·exact Nf.under (vl_under Sm.v_under _ _))
 have g2:=b3 [.int .i64 kd,.bool ow,.int .i64 ty,nv',.sl false (ex.map Ex.v)] [.sl false (bo.map Sm.v)] (by
  intro v hv;simp only[qt4,quV,or_false] at hv;rcases hv with rfl|rfl|rfl|rfl|rfl
  ·exact Nf.under rfl
  ·exact Nf.under rfl
  ·exact Nf.under rfl
  ·exact Nf.under a1
  ·exact Nf.under (vl_under Ex.v_under _ _)) (by
  intro v hv;simp only[qt4,quV,or_false] at hv;subst hv;exact Nf.under (vl_under Sm.v_under _ _))
 simp only[qtO,qt7] at g1 g2;refine ⟨[_],by simp only[rvs,he,ldS,hc];rfl,_,U2,(g1.trans g2).trans qaW.weak,?_,F,D,b4,b5⟩;simp only[V.weak,V.weakL,a2,b2,wEx,wSm,De.v_eq];rfl
theorem qts{w:Nat}{P:(Nat→Prop)→(Nat→Prop)→St→Prop}(fm:Frm w P){n0 n1 n2:Nat}{F0 D0 F D:Nat→Prop}{S0 U:St}{kd:Int}{tx:ByteArray}{lb:List ByteArray}{tg ex:List Ex}{el:List El}{de:List De}{bo:List Sm}{lv ev dv:V}{c:Nat}{e:Env}{o:Nat}(hc:U[o]?=some (.arr [.agg [lv,.int .i64 kd,.str tx,.sl false (tg.map Ex.v),.sl false (ex.map Ex.v),ev,dv,.sl false (bo.map Sm.v)]] 8 1))(he:e.get c=some (.ptr o 0 0 1))
  (h1:Gx 1 n0 w F D (lb.map .str) lv U) (h2:Gx 2 n1 w F D (el.map El.v) ev U) (h3:Gx 7 n2 w F D (de.map De.v) dv U) (hn:S0.length≤n0) (hn':S0.length≤n1) (hn'':S0.length≤n2) (k:P F D U) (s:Stp w F0 D0 S0 F D U):
  endp [.cell c (some 8)] S0.length (fun r U=>Rd' w P F0 D0 S0 (Sm.mk lb kd tx tg ex el de bo).v r U) .ret e U:=by
 have ul:V.underL 0 (lb.map .str)=true:=by simpa[V.under] using qem false lb
 have ue:V.underL 0 (el.map El.v)=true:=by simpa[V.under] using vl_under El.v_under false el
 have ud:V.underL 0 (de.map De.v)=true:=by simpa[V.under] using vl_under De.v_under false de
 obtain ⟨lv',U1,a1,a2,a3,a4,a5,a6⟩:=h1.frz fm k s hn ul (wStr lb);have h2':Gx 2 n1 w F D (el.map El.v) ev U1:=h2.other fun l o ho a b c hv=>a6 l o ho fun a' b' c' hh=>h1.ne h2 (by omega) l a' b' c' a b c hh hv
 have h3':Gx 7 n2 w F D (de.map De.v) dv U1:=h3.other fun l o ho a b c hv=>a6 l o ho fun a' b' c' hh=>h1.ne h3 (by omega) l a' b' c' a b c hh hv
 obtain ⟨ev',U2,b1,b2,b3,b4,b5,b6⟩:=h2'.frz fm a4 a5 hn' ue (wEl el);have h3'':Gx 7 n2 w F D (de.map De.v) dv U2:=h3'.other fun l o ho a b c hv=>b6 l o ho fun a' b' c' hh=>h2'.ne h3' (by omega) l a' b' c' a b c hh hv
 obtain ⟨dv',U3,c1,c2,c3,c4,c5,c6⟩:=h3''.frz fm b4 b5 hn'' ud (wDe de)
 have g1:=a3 [] [.int .i64 kd,.str tx,.sl false (tg.map Ex.v),.sl false (ex.map Ex.v),ev,dv,.sl false (bo.map Sm.v)] (by intro v hv;simp at hv) (by
  intro v hv;simp only[qt4,quV,or_false] at hv;rcases hv with rfl|rfl|rfl|rfl|rfl|rfl|rfl
  ·exact Nf.under rfl
  ·exact Nf.under rfl
  ·exact Nf.under (vl_under Ex.v_under _ _)
  ·exact Nf.under (vl_under Ex.v_under _ _)
  ·exact Nf.gx h1 h2 (by omega) ue
  ·exact Nf.gx h1 h3 (by omega) ud
  ·exact Nf.under (vl_under Sm.v_under _ _))
 have g2:=b3 [lv',.int .i64 kd,.str tx,.sl false (tg.map Ex.v),.sl false (ex.map Ex.v)] [dv,.sl false (bo.map Sm.v)] (by
  intro v hv;simp only[qt4,quV,or_false] at hv;rcases hv with rfl|rfl|rfl|rfl|rfl
  ·exact Nf.under a1
  ·exact Nf.under rfl
  ·exact Nf.under rfl
  ·exact Nf.under (vl_under Ex.v_under _ _)
  ·exact Nf.under (vl_under Ex.v_under _ _)) (by
  intro v hv;simp only[qt4,quV,or_false] at hv;rcases hv with rfl|rfl
  ·exact Nf.gx h2' h3' (by omega) ud
  ·exact Nf.under (vl_under Sm.v_under _ _))
 have g3:=c3 [lv',.int .i64 kd,.str tx,.sl false (tg.map Ex.v),.sl false (ex.map Ex.v),ev'] [.sl false (bo.map Sm.v)] (by
  intro v hv;simp only[qt4,quV,or_false] at hv;rcases hv with rfl|rfl|rfl|rfl|rfl|rfl
  ·exact Nf.under a1
  ·exact Nf.under rfl
  ·exact Nf.under rfl
  ·exact Nf.under (vl_under Ex.v_under _ _)
  ·exact Nf.under (vl_under Ex.v_under _ _)
  ·exact Nf.under b1) (by
  intro v hv;simp only[qt4,quV,or_false] at hv;subst hv;exact Nf.under (vl_under Sm.v_under _ _))
 simp only[qtO,qt7] at g1 g2 g3;refine ⟨[_],by simp only[rvs,he,ldS,hc];rfl,_,U3,((g1.trans g2).trans g3).trans qaW.weak,?_,F,D,c4,c5⟩;simp only[V.weak,V.weakL,a2,b2,c2,wEx,wSm,Sm.v_eq];rfl
end Go.Proofs.YtbifpocccfkhhaaGreatDoor
end
