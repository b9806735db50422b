/- A part. -/
import Derived.Test.YtbifpocccfkhhaaGreatDoorUk
import Derived.Shelf.SlIter.Nil
import Derived.Shelf.SortM.Plain
import Derived.Shelf.SortM.SortNone
import Derived.Ground.GgzProg
import Derived.Ground.SlgmProg
import Derived.Sort.Walk0
set_option linter.all false
noncomputable section
namespace Go.Proofs.YtbifpocccfkhhaaGreatDoor
open Go Go.Proofs.Tryz
abbrev ptV(p:Nat):V:=.ptr p 0 0 1
def coU(h:List Bz×List Bz)(x:Bz)(sc:Scs):List Bz×List Bz:=match sc.at x with
 | some _=>h
 | none=>(h.1++[x],h.2)
def coP:Pw where
 H:=List Bz×List Bz
 f _ x:=x
 nm:=some fun x _ _=>x
 cl:=some fun x _=>x
 ent h _ x:=(h.1,h.2++[x])
 nmH h x sc _:=coU h x.text sc
 clH h x sc:=coU h x sc
structure Co(m c4 c5 c6:Nat)(h:List Bz×List Bz)(v:V)(ps:List Nat)(F D:Np)(U:St):Prop where
 f4:U[c4]?=some (.arr [.map m] 1 1)
 fm:∃bs ck,Zc bs ck∧U[m]?=some (.map ((h.1.foldl yC []).map kv) bs ck)
 f5:U[c5]?=some (.arr [v] 1 1)
 f6:U[c6]?=some (.arr [.fn (.func 107) [] [.ptr c4 0 0 1]] 1 1)
 gr:(ps=[]∧v=.sl true [])∨∃a wr,v=.arr a 0 ps.length ps.length∧U[a]?=some (.arr (ps.map ptV) 1 wr)∧wr≤ps.length∧F a∧a≠c5
 pn:ps.length=h.2.length
 pl:∀i p x,ps[i]?=some p→h.2[i]?=some x→D p∧U[p]?=some (plc x i x)
 dF:∀l,F l→l=m∨l=c5∨∃n,v=.arr l 0 n n
 dD:∀l,D l→l=c4∨l=c6∨l∈ps
 hm:F m
 h5:F c5
 h4:D c4
 h6:D c6
def coC(m c4 c5 c6:Nat):Cb where
 toPw:=coP
 fe:=.fn (.func 108) [] [.ptr c5 0 0 1]
 fn:=.fn (.func 109) [] [.ptr c6 0 0 1]
 fc:=.fn (.func 110) [] [.ptr c6 0 0 1]
 I h F D U:=∃v ps,Co m c4 c5 c6 h v ps F D U
 cn h n:=h.2.length=n
 lim:=100001
theorem jU{U:St}{i j:Nat}{a b:Ob}(h:U[i]?=some a)(g:U[j]?=some b)(n:a≠b):i≠j:=by
 rintro rfl;rw[h] at g;cases g;exact n rfl
section
variable {m c4 c5 c6:Nat} {h:List Bz×List Bz} {v:V} {ps:List Nat} {F D:Np} {U:St}
theorem Co.place(k:Co m c4 c5 c6 h v ps F D U){p:Nat}(hp:p∈ps):∃x i,D p∧U[p]?=some (plc x i x):=by
 obtain ⟨i,hi⟩:=qrS.1 hp;have h1:=(qqx.1 hi).1;rw[k.pn] at h1;exact ⟨_,i,k.pl i p _ hi (qqD h1)⟩
theorem Co.gF(k:Co m c4 c5 c6 h v ps F D U){l:Nat}(hl:F l):∃o,U[l]?=some o∧(∀i,o≠.loop i)∧¬ D l:=by
 have nD:∀o,U[l]?=some o→o≠.arr [.map m] 1 1→o≠.arr [.fn (.func 107) [] [.ptr c4 0 0 1]] 1 1→(∀x i,o≠plc x i x)→¬ D l:=fun o ho n1 n2 n3 hD=>by
  rcases k.dD l hD with rfl|rfl|hp
  ·rw[k.f4] at ho;cases ho;exact n1 rfl
  ·rw[k.f6] at ho;cases ho;exact n2 rfl
  ·obtain ⟨x,i,_,h2⟩:=k.place hp;rw[h2] at ho;cases ho;exact n3 x i rfl
 rcases k.dF l hl with rfl|rfl|⟨n,hv⟩
 ·obtain ⟨bs,ck,hst,hm⟩:=k.fm;exact ⟨_,hm,by simp,nD _ hm (by simp) (by simp) (by simp[plc])⟩
 ·refine ⟨_,k.f5,by simp,nD _ k.f5 ?_ ?_ (by simp[plc])⟩
  ·rcases k.gr with ⟨_,rfl⟩|⟨a,wr,rfl,_⟩ <;> simp
  ·rcases k.gr with ⟨_,rfl⟩|⟨a,wr,rfl,_⟩ <;> simp
 ·rcases k.gr with ⟨_,rfl⟩|⟨a,wr,rfl,ha,_,_⟩
  ·cases hv
  ·cases hv;refine ⟨_,ha,by simp,nD _ ha ?_ ?_ (by simp[plc])⟩
   ·intro hh;injection hh with hh;cases ps <;> simp at hh
   ·intro hh;injection hh with hh;cases ps <;> simp at hh
theorem Co.gD(k:Co m c4 c5 c6 h v ps F D U){l:Nat}(hl:D l):∃o,U[l]?=some o∧∀i,o≠.loop i:=by
 rcases k.dD l hl with rfl|rfl|hp
 ·exact ⟨_,k.f4,by simp⟩
 ·exact ⟨_,k.f6,by simp⟩
 ·obtain ⟨x,i,_,h2⟩:=k.place hp;exact ⟨_,h2,by simp[plc]⟩
theorem Co.fr{U':St}{M:Np}(k:Co m c4 c5 c6 h v ps F D U)(hk:Kp M U U')(hM:∀l,M l→l<U.length→¬ F l∧¬ D l):Co m c4 c5 c6 h v ps F D U':=by
 have nF:∀{l o},U[l]?=some o→F l→U'[l]?=some o:=fun ho hf=>hk.at ho fun hm=>(hM _ hm (glt ho)).1 hf
 have nD:∀{l o},U[l]?=some o→D l→U'[l]?=some o:=fun ho hf=>hk.at ho fun hm=>(hM _ hm (glt ho)).2 hf
 obtain ⟨bs,ck,hst,hm⟩:=k.fm;exact ⟨nD k.f4 k.h4,⟨bs,ck,hst,nF hm k.hm⟩,nF k.f5 k.h5,nD k.f6 k.h6,k.gr.imp id fun ⟨a,wr,h1,h2,h3,h4,h5⟩=>⟨a,wr,h1,nF h2 h4,h3,h4,h5⟩,k.pn,fun i p x h1 h2=>⟨(k.pl i p x h1 h2).1,nD (k.pl i p x h1 h2).2 (k.pl i p x h1 h2).1⟩,k.dF,k.dD,k.hm,k.h5,k.h4,k.h6⟩
theorem Co.use(k:Co m c4 c5 c6 h v ps F D U)(x:Bz){bs:List Nat}{ck:Nat}(hst:Zc bs ck):Co m c4 c5 c6 (h.1++[x],h.2) v ps F D (U.set m (.map (((h.1++[x]).foldl yC []).map kv) bs ck)):=by
 obtain ⟨bs0,ck0,_,hm⟩:=k.fm
 have g:∀{l o},U[l]?=some o→(∀a b c,o≠Ob.map a b c)→(U.set m (.map (((h.1++[x]).foldl yC []).map kv) bs ck))[l]?=some o:=fun {l o} ho n=>by
  rw[qqB]
  ·exact ho
  ·exact jU hm ho (Ne.symm (n _ _ _))
 exact ⟨g k.f4 (by simp),⟨bs,ck,hst,qqz (glt hm)⟩,g k.f5 (by simp),g k.f6 (by simp),k.gr.imp id fun ⟨a,wr,h1,h2,h3,h4,h5⟩=>⟨a,wr,h1,g h2 (by simp),h3,h4,h5⟩,k.pn,fun i p x h1 h2=>⟨(k.pl i p x h1 h2).1,g (k.pl i p x h1 h2).2 (by simp[plc])⟩,k.dF,k.dD,k.hm,k.h5,k.h4,k.h6⟩
end
theorem qlG{S:St}{sz bytes:Nat}{y:V}{b:Bool}(hy:fits sz [y]=true)(hr:bytes≤2 ^ 47):JA S sz bytes (.sl true []) (.sl b [y])=some (.arr S.length 0 1 1,S++[.arr [y] sz 1]):=by
 unfold JA;rw[ZR];have hc:true=true∧fits sz [y]=true∧(([]:List V).all fun v=>v.size==sz)=true∧(([]:List V).length+[y].length) * bytes≤2 ^ 47:=⟨rfl,hy,rfl,by simpa using hr⟩;show (if ([y]:List V).isEmpty=true then _ else _)=_;rw[if_neg (by simp),if_pos hc];simp
theorem qlJ{S:St}{sz bytes l wr:Nat}{xs:List V}{y:V}{b:Bool}(h3:S[l]?=some (.arr xs sz wr))(hy:fits sz [y]=true)(hr:(xs.length+1) * bytes≤2 ^ 47):JA S sz bytes (.arr l 0 xs.length xs.length) (.sl b [y])=some (.arr l 0 (xs.length+1) (xs.length+1),S.set l (.arr (xs++[y]) sz wr)):=by
 have hc:0=0∧xs.length=xs.length∧xs.length=xs.length∧sz=sz∧fits sz [y]=true∧(xs.length+[y].length) * bytes≤2 ^ 47:=⟨rfl,rfl,rfl,rfl,hy,hr⟩;unfold JA;rw[ZR];show (match S[l]? with|_=>_)=_;rw[h3];show (if _ then _ else _)=_;rw[if_pos hc];rfl
theorem qk9{m c4 c5 c6:Nat}{h:List Bz×List Bz}{v:V}{ps:List Nat}{F D:Np}{U:St}(k:Co m c4 c5 c6 h v ps F D U)(p:Nat)(x:Bz)(hp:U[p]?=some (plc x h.2.length x))(nF:¬ F p)(hn:h.2.length≤100000):
  qv prog 108 [.ptr p 0 0 1,.ptr c5 0 0 1] U (fun _ U'=>∃v' F',Co m c4 c5 c6 (h.1,h.2++[x]) v' (ps++[p]) F' (fun l=>D l∨l=p) U'∧U'[p]?=some (plc x h.2.length x)∧Kp (fun l=>l=p∨F l) U U'∧grow U F F'):=by
 refine qv.ib func108 ok108 ?_;have hpn:=k.pn;obtain ⟨bs,ck,hst,hm⟩:=k.fm;have fin:∀(U1:St) (a wr:Nat),U1[a]?=some (.arr ((ps++[p]).map ptV) 1 wr)→wr≤ps.length+1→(F a∨U.length≤a)→a≠c5→a≠m→U.length≤U1.length→(∀l o,U[l]?=some o→l≠a→U1[l]?=some o)→
   ∃v' F',Co m c4 c5 c6 (h.1,h.2++[x]) v' (ps++[p]) F' (fun l=>D l∨l=p) (U1.set c5 (.arr [.arr a 0 (ps.length+1) (ps.length+1)] 1 1))∧(U1.set c5 (.arr [.arr a 0 (ps.length+1) (ps.length+1)] 1 1))[p]?=some (plc x h.2.length x)∧Kp (fun l=>l=p∨F l) U (U1.set c5 (.arr [.arr a 0 (ps.length+1) (ps.length+1)] 1 1))∧grow U F F':=by
  intro U1 a wr h2 h3 h4 h5 h5' h6' h6
  have q:∀{l o},U[l]?=some o→l≠c5→l≠a→(U1.set c5 (.arr [.arr a 0 (ps.length+1) (ps.length+1)] 1 1))[l]?=some o:=fun {l o} ho n1 n2=>by
   rw[qqB (Ne.symm n1)];exact h6 l o ho n2
  have nq:∀{l o},U[l]?=some o→¬ F l→(U1.set c5 (.arr [.arr a 0 (ps.length+1) (ps.length+1)] 1 1))[l]?=some o:=fun {l o} ho hF=>
   q ho (by rintro rfl;exact hF k.h5) (by rintro rfl;exact h4.elim hF fun hh=>by have:=glt ho;omega)
  have nDF:∀{l},D l→¬ F l:=fun hD hF=>by obtain ⟨_,_,_,h⟩:=k.gF hF;exact h hD
  refine ⟨.arr a 0 (ps.length+1) (ps.length+1),fun l=>l=m∨l=c5∨l=a,⟨nq k.f4 (nDF k.h4),⟨bs,ck,hst,q hm ?_ (Ne.symm h5')⟩,qqz ?_,nq k.f6 (nDF k.h6),.inr ⟨a,wr,by simp,?_,by simpa using h3,.inr (.inr rfl),h5⟩,by simp[hpn],fun i p' x' g1 g2=>?_,fun l hl=>?_,fun l hl=>?_,.inl rfl,.inr (.inl rfl),.inl k.h4,.inl k.h6⟩,nq hp nF,⟨by simpa using h6',fun l hl hn=>?_⟩,fun l hl=>?_⟩
  ·refine jU hm k.f5 (by simp)
  ·have:=glt k.f5;omega
  ·rw[qqB (Ne.symm h5)];exact h2
  ·by_cases hi:i<ps.length
   ·rw[qqA hi] at g1;rw[qqA (by omega)] at g2;obtain ⟨e1,e2⟩:=k.pl i p' x' g1 g2;exact ⟨.inl e1,nq e2 (nDF e1)⟩
   ·have h1:=(qqx.1 g1).1;rw[qqO,List.length_singleton] at h1;have:i=ps.length:=by omega
    subst this;simp at g1;rw[hpn] at g2;simp at g2;subst g1 g2;have e:=nq hp nF;rw[←hpn] at e;exact ⟨.inr rfl,e⟩
  ·exact hl.imp id fun hl=>hl.imp id fun hl=>⟨ps.length+1,by rw[hl]⟩
  ·rcases hl with hl|rfl
   ·exact (k.dD l hl).imp id fun hl=>hl.imp id fun hl=>by simp[hl]
   ·exact .inr (.inr (by simp))
  ·have:∃o,U[l]?=some o:=⟨_,qqD hl⟩;obtain ⟨o,ho⟩:=this;rw[ho];exact nq ho fun hf=>hn (.inr hf)
  ·rcases hl with rfl|rfl|rfl
   ·exact .inl k.hm
   ·exact .inl k.h5
   ·exact h4
 have hf:=k.f5;have hft:fits 1 [V.ptr p 0 0 1]=true:=rfl;rcases k.gr with ⟨rfl,rfl⟩|⟨a,wr,rfl,ha,hw,hF,hne⟩
 ·have happ:=qlG (S:=U) (sz:=1) (bytes:=8) (y:=.ptr p 0 0 1) (b:=true) rfl (by omega);have hs:(U++[Ob.arr [.ptr p 0 0 1] 1 1])[c5]?=some (.arr [.sl true []] 1 1):=gp hf;simp[c108,ldS,hf,hft,evX,happ,stS,hs];refine qB rfl ?_;exact (fin (U++[Ob.arr [ptV p] 1 1]) U.length 1 (by simp) (by simp) (.inr (qqC _)) (by have:=glt hf;omega) (by have:=glt hm;omega) (by simp) fun l o ho _=>gp ho)
 ·have happ:=qlJ (S:=U) (sz:=1) (bytes:=8) (y:=.ptr p 0 0 1) (b:=true) ha rfl (by rw[qqF];omega);simp at happ;have hs:(U.set a (Ob.arr (ps.map ptV++[.ptr p 0 0 1]) 1 wr))[c5]?=some (.arr [.arr a 0 ps.length ps.length] 1 1):=by rw[qqB hne];exact hf
  simp[c108,ldS,hf,hft,evX,happ,stS,hs];refine qB rfl ?_;exact (fin (U.set a (Ob.arr (ps.map ptV++[.ptr p 0 0 1]) 1 wr)) a wr (by rw[qqz (glt ha),qqX];rfl) (by omega) (.inl hF) hne (jU ha hm (by simp)) (by simp) fun l o ho hl=>by rw[qqB (Ne.symm hl)];exact ho)
section
variable {m c4 c5 c6:Nat} {h:List Bz×List Bz} {v:V} {ps:List Nat} {F D:Np} {U:St}
theorem Co.lt(k:Co m c4 c5 c6 h v ps F D U){l:Nat}(hl:F l∨D l):l<U.length:=by
 rcases hl with hl|hl
 ·obtain ⟨_,h,_⟩:=k.gF hl;exact glt h
 ·obtain ⟨_,h,_⟩:=k.gD hl;exact glt h
theorem Co.push(k:Co m c4 c5 c6 h v ps F D U)(os:List Ob):Co m c4 c5 c6 h v ps F D (U++os):=k.fr (M:=fun _=>False) ((Kp.refl _ _).push _) fun _ h=>h.elim
theorem Co.set(k:Co m c4 c5 c6 h v ps F D U){l:Nat}(o:Ob)(hF:¬ F l)(hD:¬ D l):Co m c4 c5 c6 h v ps F D (U.set l o):=k.fr (M:=fun x=>x=l) ((Kp.refl _ _).set _ (.inl rfl)) fun x hx _=>by rw[hx];exact ⟨hF,hD⟩
end
theorem qfT{m c4 c5 c6:Nat}{h:List Bz×List Bz}{v:V}{ps:List Nat}{F D:Np}{U:St}(k:Co m c4 c5 c6 h v ps F D U){X:Np}{w:V}{ts:List Sct}(hsc:ScR coP X U w ts)(x:Bz):
  qv prog 107 [.str x,w,.ptr c4 0 0 1] U (fun _ U'=>Co m c4 c5 c6 (coU h x (Scx ts)) v ps F D U'∧Kp F U U'):=by
 refine qv.ib func107 ok107 ?_;simp[c107];refine qe (jj hsc x) ?_;have hat:=Jw ts x;unfold coU;rw[hat];have h4:=k.f4;obtain ⟨bs,ck,hst,hm⟩:=k.fm
 cases hf:fnd ts x with
 | some q=>
  simp[YU,hf,yz,eqV];exact qB rfl ⟨k,Kp.refl _ _⟩
 | none=>
  simp[YU,hf,yz,eqV,ldS,h4];have hft:fits 1 [V.str x]=true:=rfl;simp[hft];refine qh (qcw true [x] _ bs ck m U (by simp) hm) ?_;rintro r U' ⟨bs',ck',hst',rfl⟩;simp;have:=k.use x (hst' hst);rw[qrf] at this;exact qB rfl ⟨this,(Kp.refl _ _).set _ (.inl k.hm)⟩
theorem qkF{m c4 c5 c6:Nat}{h:List Bz×List Bz}{v:V}{ps:List Nat}{F D:Np}{U:St}(k:Co m c4 c5 c6 h v ps F D U){X:Np}{w:V}{ts:List Sct}(hsc:ScR coP X U w ts)(x:Ex)(tg:Bool):
  qv prog 109 [x.v,w,.bool tg,.ptr c6 0 0 1] U (fun r U'=>r=x.v∧Co m c4 c5 c6 (coU h x.text (Scx ts)) v ps F D U'∧Kp F U U'):=by
 refine qv.ib func109 ok109 ?_;simp[c109,qE];obtain ⟨U1,hU1⟩:∃U1:St,U1=U++[.arr [x.v] 7 1,.arr [.agg [.int .i64 0,.int .i64 0,.int .i64 0,.int .i64 0,.int .i64 0,.str ⟨⟨[]⟩⟩,.sl true []]] 7 1]:=⟨_,rfl⟩;rw[←hU1];have l1:U1.length=U.length+2:=by rw[hU1];simp
 have b0:U1[U.length]?=some (.arr [x.v] 7 1):=by rw[hU1];simp
 have b1:U1[U.length+1]?=some (.arr [.agg [.int .i64 0,.int .i64 0,.int .i64 0,.int .i64 0,.int .i64 0,.str ⟨⟨[]⟩⟩,.sl true []]] 7 1):=by rw[hU1,qqy (by omega)];simp
 have k1:Co m c4 c5 c6 h v ps F D U1:=by rw[hU1];exact k.push _
 have s1:ScR coP X U1 w ts:=by rw[hU1];exact hsc.push _
 have kp1:Kp F U U1:=by rw[hU1];exact (Kp.refl _ _).push _
 clear hU1;have h6:=k1.f6;have nF:∀j,¬ F (U.length+j):=fun j hf=>by have:=k.lt (.inl hf);omega
 have nD:∀j,¬ D (U.length+j):=fun j hf=>by have:=k.lt (.inr hf);omega
 simp[ldS,h6,b0];refine qh (qfT k1 s1 x.text) ?_;rintro r U2 ⟨k2,kp2⟩;have c0:=kp2.at b0 (nF 0);have c1:=kp2.at b1 (nF 1);simp[ldS,c0,stS,c1,qi];have hz:(U2.set (U.length+1) (.arr [x.v] 7 1))[U.length+1]?=some (.arr [x.v] 7 1):=qqz (glt c1);exact qg (vs:=[x.v]) (by simp[rvs,ldS,hz]) ⟨rfl,k2.set _ (nF 1) (nD 1),(kp1.trans kp2).set _ (.inr (by omega))⟩
theorem qlZ{m c4 c5 c6:Nat}{h:List Bz×List Bz}{v:V}{ps:List Nat}{F D:Np}{U:St}(k:Co m c4 c5 c6 h v ps F D U){X:Np}{w:V}{ts:List Sct}(hsc:ScR coP X U w ts)(x:Bz):
  qv prog 110 [.str x,w,.ptr c6 0 0 1] U (fun r U'=>r=.str x∧Co m c4 c5 c6 (coU h x (Scx ts)) v ps F D U'∧Kp F U U'):=by
 refine qv.ib func110 ok110 ?_;have h6:=k.f6;simp[c110,ldS,h6];refine qh (qfT k hsc x) ?_;rintro r U2 ⟨k2,kp2⟩;simp;exact qg rfl ⟨rfl,k2,kp2⟩
theorem Co.real{m c4 c5 c6:Nat}{h:List Bz×List Bz}{v:V}{ps:List Nat}{F D:Np}{S:St}(k:Co m c4 c5 c6 h v ps F D S)(h':List Bz×List Bz):∃F' D' U v' ps',Co m c4 c5 c6 h' v' ps' F' D' U∧Kp F S U∧grow S F F'∧grow S D D':=by
 obtain ⟨bs,ck,hst,hm⟩:=k.fm;obtain ⟨n,hn⟩:∃n,n=h'.2.length:=⟨_,rfl⟩;obtain ⟨ps',hps⟩:∃ps':List Nat,ps'=(List.range n).map (S.length+·):=⟨_,rfl⟩;have lps:ps'.length=n:=by rw[hps];simp
 obtain ⟨os,hos⟩:∃os:List Ob,os=(h'.2.zipIdx.map fun e=>plc e.1 e.2 e.1)++[.arr (ps'.map ptV) 1 0]:=⟨_,rfl⟩;have los:os.length=n+1:=by rw[hos,hn];simp
 obtain ⟨U,hU⟩:∃U:St,U=((S++os).set m (.map ((h'.1.foldl yC []).map kv) [] 0)).set c5 (.arr [.arr (S.length+n) 0 n n] 1 1):=⟨_,rfl⟩;have lm:=glt hm;have l5:=glt k.f5;have nDF:∀{l},D l→¬ F l:=fun hD hF=>by obtain ⟨_,_,_,h⟩:=k.gF hF;exact h hD
 have q:∀{l o},S[l]?=some o→¬ F l→U[l]?=some o:=fun {l o} ho hf=>by
  rw[hU,qqB (by rintro rfl;exact hf k.h5),qqB (by rintro rfl;exact hf k.hm)];rw[qqA (glt ho)];exact ho
 have new:∀j o,os[j]?=some o→U[S.length+j]?=some o:=fun j o ho=>by
  rw[hU,qqB (by omega),qqB (by omega),qqy (by omega),qrW];exact ho
 refine ⟨fun l=>l=m∨l=c5∨l=S.length+n,fun l=>l=c4∨l=c6∨l∈ps',U,.arr (S.length+n) 0 n n,ps',⟨q k.f4 (nDF k.h4),⟨[],0,Zc.nil,?_⟩,?_,q k.f6 (nDF k.h6),.inr ⟨S.length+n,0,by rw[lps],new n _ ?_,qrc _,.inr (.inr rfl),by omega⟩,by rw[lps,hn],fun i p x h1 h2=>⟨.inr (.inr (qqG h1)),?_⟩,fun l hl=>hl.imp id fun hl=>hl.imp id fun hl=>⟨n,by rw[hl]⟩,fun l hl=>hl,.inl rfl,.inr (.inl rfl),.inl rfl,.inr (.inl rfl)⟩,⟨?_,fun l hl hf=>?_⟩,fun l hl=>?_,fun l hl=>?_⟩
 ·rw[hU,qqB (jU k.f5 hm (by simp)),qqz (by simp;omega)]
 ·rw[hU,qqz (by simp;omega)]
 ·rw[hos,qqy (by simp[hn])];simp[hn]
 ·rw[hps] at h1;simp at h1;obtain ⟨j,hj,rfl⟩:=h1;obtain ⟨h3,h4⟩:=qqx.1 hj;rw[List.getElem_range] at h4;rw[List.length_range] at h3;subst h4;refine new i _ ?_;rw[hos,qqA (by simp;omega)];simp[h2]
 ·rw[hU];simp
 ·obtain ⟨o,ho⟩:∃o,S[l]?=some o:=⟨_,qqD hl⟩;rw[ho];exact q ho hf
 ·rcases hl with rfl|rfl|rfl
  ·exact .inl k.hm
  ·exact .inl k.h5
  ·exact .inr (by omega)
 ·rcases hl with rfl|rfl|hl
  ·exact .inl k.h4
  ·exact .inl k.h6
  ·rw[hps] at hl;simp at hl;omega
theorem qnS(m c4 c5 c6:Nat):(coC m c4 c5 c6).Ok where
 lim:=qqC _
 lt:=fun ⟨v,ps,k⟩ l hl=>k.lt hl
 fr:=fun ⟨v,ps,k⟩ hk hM=>⟨v,ps,k.fr hk hM⟩
 lp:=fun ⟨v,ps,k⟩ l o ho=>⟨fun hf=>by obtain ⟨_,h1,h2,_⟩:=k.gF hf;rw[ho] at h1;cases h1;exact h2 _ rfl,fun hf=>by obtain ⟨_,h1,h2⟩:=k.gD hf;rw[ho] at h1;cases h1;exact h2 _ rfl⟩
 ce x hc:=by
  show (_++[x]).length=_+1;rw[qqO];exact congrArg (·+1) hc
 cm x sc tg hc:=by
  show (coU _ x.text sc).2.length=_;unfold coU;split <;> exact hc
 cc x sc hc:=by
  show (coU _ x sc).2.length=_;unfold coU;split <;> exact hc
 real:=fun {h F D S} ⟨v,ps,k⟩ h'=>by
  obtain ⟨F',D',U,v',ps',a,b,c,d⟩:=k.real h';exact ⟨F',D',U,⟨v',ps',a⟩,b,c,d⟩
 en:=.inr ⟨108,[.ptr c5 0 0 1],rfl,fun U p k x h F D hp hF hD hk hc ⟨v,ps,kk⟩=>by
  have hc:h.2.length=k:=hc;subst hc;refine qv.mono (qk9 kk p x hp hF (Nat.le_of_lt_succ hk)) fun r U' ⟨v',F',a,b,c,d⟩=>?_
  exact ⟨F',fun l=>D l∨l=p,⟨v',ps++[p],a⟩,b,c,d,fun l hl=>hl.imp id .inl⟩⟩
 nm:=⟨109,[.ptr c6 0 0 1],rfl,fun U x w ts tg w' h F D hsc ⟨v,ps,k⟩=>qv.mono (qkF k hsc x tg) fun r U' ⟨a,b,c⟩=>⟨a,F,D,⟨v,ps,b⟩,c,grow.refl _ _,grow.refl _ _⟩⟩
 cl:=⟨110,[.ptr c6 0 0 1],rfl,fun U x w ts w' h F D hsc ⟨v,ps,k⟩=>qv.mono (qlZ k hsc x) fun r U' ⟨a,b,c⟩=>⟨a,F,D,⟨v,ps,b⟩,c,grow.refl _ _,grow.refl _ _⟩⟩
def qqm(s:Sm)(S:St)(r:V)(U:St):Prop:=∃(m c4 c5 c6:Nat) (v:V) (ps:List Nat) (F D:Np),r=.tup [.map m,v]∧Co m c4 c5 c6 (s.wholeH coP ([],[])) v ps F D U∧Kp (fun _=>False) S U∧(∀l,F l∨D l→S.length≤l)
theorem YD(y:V):V.upd .nilmap 0 1 y=if y.size=1∧y.cells.all V.flat=true then some y else none:=rfl
theorem qeT(s:Sm)(hs:s.ok)(hsz:(Pa.st s).size≤4000)(hn:Sm.nb1 [s]≤100000)(S:St):qv prog 58 [s.v] S (fun r U=>qqm s S r U):=by
 refine qv.ib func58 ok58 ?_;simp[c58,qE,ldS,stS,qi,qH,qD,evX,YD,Yr];obtain ⟨B,hB⟩:∃B,B=S.length:=⟨_,rfl⟩;obtain ⟨S1,hS1⟩:∃S1:St,S1=S++[.arr [s.v] 8 1,.map [] [] 0,.arr [.map (B+1)] 1 1,.arr [.sl true []] 1 1,.arr [.fn (.func 107) [] [.ptr (B+2) 0 0 1]] 1 1,.arr [.agg [.int .i64 0,.fn (.func 108) [] [.ptr (B+3) 0 0 1],.fn (.func 109) [] [.ptr (B+4) 0 0 1],.fn (.func 110) [] [.ptr (B+4) 0 0 1]]] 4 1]:=⟨_,rfl⟩;rw[←hB,←hS1];have l1:S1.length=B+6:=by rw[hS1,hB];simp
 have g:∀j o,[Ob.arr [s.v] 8 1,.map [] [] 0,.arr [.map (B+1)] 1 1,.arr [.sl true []] 1 1,.arr [.fn (.func 107) [] [.ptr (B+2) 0 0 1]] 1 1,.arr [.agg [.int .i64 0,.fn (.func 108) [] [.ptr (B+3) 0 0 1],.fn (.func 109) [] [.ptr (B+4) 0 0 1],.fn (.func 110) [] [.ptr (B+4) 0 0 1]]] 4 1][j]?=some o→S1[B+j]?=some o:=fun j o ho=>by
  rw[hS1,qqy (by omega),hB,qrW,←hB];exact ho
 have kS:Kp (fun _=>False) S S1:=by rw[hS1];exact (Kp.refl _ _).push _
 have k1:Co (B+1) (B+2) (B+3) (B+4) ([],[]) (.sl true []) [] (fun l=>l=B+1∨l=B+3) (fun l=>l=B+2∨l=B+4) S1:=
  ⟨g 2 _ rfl,⟨[],0,Zc.nil,g 1 _ rfl⟩,g 3 _ rfl,g 4 _ rfl,.inl ⟨rfl,rfl⟩,rfl,fun i p x h=>by simp at h,fun l hl=>hl.imp id .inl,fun l hl=>hl.imp id .inl,.inl rfl,.inr rfl,.inl rfl,.inr rfl⟩
 have hw:Wk (coC (B+1) (B+2) (B+3) (B+4)) (B+5) 0 ([],[]) (fun l=>l=B+1∨l=B+3) (fun l=>l=B+2∨l=B+4) S1:=⟨g 5 _ rfl,⟨_,_,k1⟩,by omega,by omega,rfl⟩;clear g hS1 k1;refine qh (qcU (coC (B+1) (B+2) (B+3) (B+4)) (qnS _ _ _ _) (B+5) s hs hsz ([],[]) _ _ S1 hw (Nat.le_succ_of_le hn)) ?_;rintro r U ⟨rfl,F2,D2,k2,s2⟩;obtain ⟨v,ps,kk⟩:=k2.st;have h4:=kk.f4;have h5:=kk.f5;have hvc:v.cells=[v]:=by rcases kk.gr with ⟨_,rfl⟩|⟨a,wr,rfl,_⟩ <;> rfl
 simp[ldS,h4,h5,hvc,ZX,Qc,QG];refine qg rfl ⟨_,_,_,_,_,_,_,_,rfl,kk,⟨qra kS.len s2.k.len,fun l hl hn=>?_⟩,fun l hl=>?_⟩
 ·rw[s2.k.get l (by omega) (by rintro (hh|hh|hh) <;> omega)];exact kS.get l hl hn
 ·rcases hl with hl|hl
  ·rcases s2.gF l hl with (h|h)|h <;> omega
  ·rcases s2.gD l hl with (h|h)|h <;> omega
mutual
def Ex.occ:Ex→List Bz
 | .mk k _ _ _ _ t a=>Ex.occl a++(if Ex.named k then [t] else [])
def Ex.occl:List Ex→List Bz
 | []=>[]
 | x::l=>Ex.occ x++Ex.occl l
end
def El.occl:List El→List Bz
 | []=>[]
 | x::l=>Ex.occl x.exps++El.occl l
mutual
def Sm.occ:Sm→List Bz
 | .mk _ k t g e h d b=>if k=7 then De.occl d++Sm.occl b else if k=8 then Sm.occl b else Ex.occl g++Ex.occl e++El.occl h++Sm.occl b++(if k=6 then [t] else [])
def De.occ:De→List Bz
 | .mk k _ _ _ e _ b=>if k=4 then Sm.occl b else Ex.occl e
def De.occl:List De→List Bz
 | []=>[]
 | x::l=>De.occ x++De.occl l
def Sm.occl:List Sm→List Bz
 | []=>[]
 | x::l=>Sm.occ x++Sm.occl l
end
section
variable {f:Nat→Bz} {nm:Bz→Bool} (hf:∀k,nm (f k)=false)
def yn(h:coP.H):List Bz:=Prod.fst (α:=List Bz) (β:=List Bz) h
theorem zz(s:Sco):∀h:coP.H,yn (enters coP h s)=yn h:=by
 induction s with
 | nil=>intro h;rfl
 | cons e s ih=>intro h;exact ih _
include hf
theorem qhm(h:coP.H)(sc:Scs)(t:Bz)(ht:nm t=true):yn (coP.clH h t sc)=yn h++[zn f sc t].filter nm:=by
 show Prod.fst (coU h t sc)=_;unfold coU zn yn
 cases sc.at t with
 | none=>simp[ht]
 | some k=>simp[hf]
omit hf in
theorem qju(sc:Scs)(tg:Bool)(h:coP.H)(k o n m e:Int)(t:Bz)(a:List Ex):coP.nmS sc tg h (.mk k o n m e t a)=if Ex.named k=true then coP.clH h t sc else h:=rfl
omit hf in
theorem qjj(sc:Scs)(k:Int)(h:coP.H)(t:Bz):coP.clS sc k h t=if k=6 then coP.clH h t sc else h:=rfl
def coZ:coP.H:=(([],[]):List Bz×List Bz)
mutual
theorem Ex.fr(sc:Scs)(tg:Bool):∀(x:Ex) (h:coP.H),(Pa.ex x).valid nm=true→yn (Ex.hs coP sc tg h x)=yn h++(Ex.occ (x.w f sc)).filter nm
 | .mk k o n m e t a,h,v=>by
  have ha:=Ex.frl sc false a h (Ex.valid_args v);rw[Ex.hs,Ex.w,Ex.occ,qr3,←qqR,←ha];rw[qju];by_cases hk:Ex.named k=true
  ·rw[if_pos hk,if_pos hk,if_pos hk];exact qhm hf _ sc t (Ex.valid_text v hk)
  ·rw[if_neg hk,if_neg hk,List.filter_nil,qrC]
theorem Ex.frl(sc:Scs)(tg:Bool):∀(l:List Ex) (h:coP.H),(∀x,x∈l→(Pa.ex x).valid nm=true)→yn (Ex.hsl coP sc tg h l)=yn h++(Ex.occl (Ex.wl f sc l)).filter nm
 | [],h,_=>by simp[Ex.hsl,Ex.wl,Ex.occl]
 | x::l,h,v=>by
  rw[Ex.hsl,Ex.wl,Ex.occl,Ex.frl sc tg l _ fun y hy=>v y (by simp[hy])];have:=Ex.fr sc tg x h (v x (by simp));rw[qr3,←qqR,←this]
end
theorem El.frl(sc:Scs):∀(l:List El) (h:coP.H),(∀x,x∈l→(Pa.el x).valid nm=true)→yn (El.hsl coP sc h l)=yn h++(El.occl (l.map (El.w f sc))).filter nm
 | [],h,_=>by simp[El.hsl,El.occl]
 | x::l,h,v=>by
  have h1:=Ex.frl hf sc false x.exps h (fun y hy=>(Pa.valid_iff.1 (v x (by simp))).2 _ (by simp only[Pa.kids];exact qrm hy));have h2:=El.frl sc l (Ex.hsl coP sc false h x.exps) fun y hy=>v y (by simp[hy])
  show yn (El.hsl coP sc (Ex.hsl coP sc false h x.exps) l)=_;rw[h2,h1,qqH,El.occl,qr3,←qqR];unfold El.w;rw[←Ex.wl_map]
mutual
theorem Sm.fr:∀(s:Sm) (sc:Scs) (n:Nat) (h:coP.H),(Pa.st s).valid nm=true→yn (Sm.hs coP sc n h s)=yn h++(s.w f sc n).occ.filter nm
 | .mk l k t g e el d b,sc,n,h,v=>by
  obtain ⟨v7,v8,v9⟩:=Sm.valid_block v;have vd:=Sm.valid_decls v;have vb:=Sm.valid_body v;have vg:=Sm.valid_targets v;have ve:=Sm.valid_exps v;have vl:=Sm.valid_elems v;have vt:=Sm.valid_text v;simp only[Sm.decls,Sm.body,Sm.targets,Sm.exps,Sm.elems,Sm.kind,Sm.text] at vd vb vg ve vl vt;rw[Sm.hs,Sm.w];by_cases h7:k=7
  ·obtain ⟨rfl,rfl,rfl⟩:=v7 h7;rw[if_pos h7,if_pos h7,Sm.occ,if_pos h7,qr3,←qqR];rw[Sm.frl b _ _ _ vb,De.frl d _ _ _ _ vd,zz];rfl
  ·rw[if_neg h7,if_neg h7];by_cases h8:k=8
   ·obtain ⟨rfl,rfl,rfl,rfl⟩:=v8 h8;rw[if_pos h8,if_pos h8,Sm.occ,if_neg h7,if_pos h8];rw[Sm.frl b _ _ _ vb,zz];rfl
   ·obtain rfl:=v9 h7 h8;rw[if_neg h8,if_neg h8,Sm.occ,if_neg h7,if_neg h8];have e1:=Ex.frl hf sc true g h vg;have e2:=Ex.frl hf sc false e (Ex.hsl coP sc true h g) ve;have e3:=El.frl hf sc el (Ex.hsl coP sc false (Ex.hsl coP sc true h g) e) vl;have e4:=Sm.fr1 b sc n (El.hsl coP sc (Ex.hsl coP sc false (Ex.hsl coP sc true h g) e) el) vb;rw[e3,e2,e1] at e4;simp only[qr3];rw[qjj];by_cases h6:k=6
    ·rw[if_pos h6,if_pos h6,if_pos h6];have e5:=qhm hf (Sm.hs1 coP sc n (El.hsl coP sc (Ex.hsl coP sc false (Ex.hsl coP sc true h g) e) el) b) sc t (vt h6);refine Eq.trans e5 ?_;rw[e4];simp only[qqR]
    ·rw[if_neg h6,if_neg h6];refine Eq.trans e4 ?_;simp only[qqR,List.filter_nil,qrC]
theorem De.fr:∀(s:De) (own sc:Scs) (n:Nat) (h:coP.H),(Pa.de s).valid nm=true→yn (De.hs coP own sc n h s)=yn h++(s.w f own sc n).occ.filter nm
 | .mk k o t ns e fo b,own,sc,n,h,v=>by
  obtain ⟨v4,v5⟩:=De.valid_proc v;have vb:=De.valid_body v;have ve:=De.valid_exps v;simp only[De.body,De.exps] at vb ve;rw[De.hs,De.w];by_cases h4:k=4
  ·obtain rfl:=v4 h4;rw[if_pos h4,if_pos h4,De.occ,if_pos h4,Sm.fr1 b _ _ _ vb,zz];rfl
  ·obtain ⟨rfl,rfl⟩:=v5 h4;rw[if_neg h4,if_neg h4,De.occ,if_neg h4];exact Ex.frl hf _ _ e h ve
theorem De.frl:∀(l:List De) (own sc:Scs) (n:Nat) (h:coP.H),(∀x,x∈l→(Pa.de x).valid nm=true)→yn (De.hsl coP own sc n h l)=yn h++(De.occl (De.wl f own sc n l)).filter nm
 | [],_,_,_,h,_=>by simp[De.hsl,De.wl,De.occl]
 | x::l,own,sc,n,h,v=>by
  rw[De.hsl,De.wl,De.occl,De.frl l own sc _ _ fun y hy=>v y (by simp[hy]),De.fr x own sc n h (v x (by simp)),qr3,qqR]
theorem Sm.frl:∀(l:List Sm) (sc:Scs) (n:Nat) (h:coP.H),(∀x,x∈l→(Pa.st x).valid nm=true)→yn (Sm.hsl coP sc n h l)=yn h++(Sm.occl (Sm.wl f sc n l)).filter nm
 | [],_,_,h,_=>by simp[Sm.hsl,Sm.wl,Sm.occl]
 | x::l,sc,n,h,v=>by
  rw[Sm.hsl,Sm.wl,Sm.occl,Sm.frl l sc _ _ fun y hy=>v y (by simp[hy]),Sm.fr x sc n h (v x (by simp)),qr3,qqR]
theorem Sm.fr1:∀(l:List Sm) (sc:Scs) (n:Nat) (h:coP.H),(∀x,x∈l→(Pa.st x).valid nm=true)→yn (Sm.hs1 coP sc n h l)=yn h++(Sm.occl (Sm.w1 f sc n l)).filter nm
 | [],_,_,h,_=>by simp[Sm.hs1,Sm.w1,Sm.occl]
 | x::l,sc,n,h,v=>by
  rw[Sm.hs1,Sm.w1,Sm.occl,Sm.fr1 l sc _ _ fun y hy=>v y (by simp[hy]),Sm.fr x _ _ _ (v x (by simp)),zz,qr3,qqR]
end
theorem Sm.free_occ(s:Sm)(v:(Pa.st s).valid nm=true):yn (s.wholeH coP coZ)=(s.whole f).occ.filter nm:=by
 have:=Sm.fr hf s [qd s.labels 0] (qd s.labels 0).length (enters coP coZ (qd s.labels 0)) v;refine this.trans ?_;show yn (enters coP coZ (qd s.labels 0))++_=_;rw[zz];rfl
end
section
variable {lk:Lk} {g:Nat→Bz} (hg:∀k,lk (g k)=none)
include hg
theorem qhA(sc:Scs)(t:Bz):sbn lk (zn g sc t)=match sc.at t with
 | some k=>g k
 | none=>sbn lk t:=by
 unfold zn
 cases sc.at t with
 | some k=>unfold sbn;simp only[hg]
 | none=>rfl
theorem QR(sc:Scs)(t:Bz):jO lk (zn g sc t)=qaP lk sc t:=by
 unfold zn qaP
 cases sc.at t with
 | some k=>unfold jO;simp only[hg]
 | none=>rfl
theorem qbs(sc:Scs)(tg:Bool)(t:Bz):qeM lk tg (zn g sc t)=qeI lk sc tg t:=by
 unfold zn qeI
 cases sc.at t with
 | some k=>unfold qeM;simp only[hg]
 | none=>rfl
def sbb(h:(sbP lk).H):Bool:=h
variable {nm:Bz→Bool}
omit hg in
theorem Zl(s:Sco):∀h:(sbP lk).H,enters (sbP lk) h s=h:=by
 induction s with
 | nil=>intro h;rfl
 | cons e s ih=>intro h;exact ih _
mutual
theorem Ex.sb_flag(sc:Scs)(tg:Bool):∀(x:Ex) (h:(sbP lk).H),sbb (Ex.hs (sbP lk) sc tg h x)=(sbb h || (x.w g sc).sbad lk tg)
 | .mk k o n m e t a,h=>by
  have h1:=Ex.sb_flagl sc false a h
  have h2:sbb (Ex.hs (sbP lk) sc tg h (.mk k o n m e t a))=if Ex.named k=true then sbb (Ex.hsl (sbP lk) sc false h a) || (if k=6 then qeI lk sc tg t else qaP lk sc t) else sbb (Ex.hsl (sbP lk) sc false h a):=by
   rw[Ex.hs];unfold Pw.nmS;show sbb (if Ex.named k=true then _ else _)=_;split <;> rfl
  rw[h2,h1,Ex.w,Ex.sbad];by_cases h6:k=6
  ·have hn:Ex.named k=true:=by rw[h6];rfl
   rw[if_pos hn,if_pos h6,if_pos h6,if_pos hn,qbs hg,qsh]
  ·rw[if_neg h6,if_neg h6];by_cases hn:Ex.named k=true
   ·rw[if_pos hn,if_pos hn,QR hg,hn,qrQ,qsh]
   ·rw[if_neg hn];have:Ex.named k=false:=by simpa using hn
    rw[this,qsA,qrw]
theorem Ex.sb_flagl(sc:Scs)(tg:Bool):∀(l:List Ex) (h:(sbP lk).H),sbb (Ex.hsl (sbP lk) sc tg h l)=(sbb h || Ex.sbadl lk tg (Ex.wl g sc l))
 | [],h=>by rw[Ex.hsl,Ex.wl,Ex.sbadl,qrw]
 | x::l,h=>by rw[Ex.hsl,Ex.sb_flagl sc tg l,Ex.sb_flag sc tg x,Ex.wl,Ex.sbadl,qsh]
end
theorem El.sb_flagl(sc:Scs):∀(l:List El) (h:(sbP lk).H),sbb (El.hsl (sbP lk) sc h l)=(sbb h || El.sbadl lk (l.map (El.w g sc)))
 | [],h=>by rw[qrh,El.sbadl,qrw];rfl
 | x::l,h=>by
  have h1:=El.sb_flagl sc l (Ex.hsl (sbP lk) sc false h x.exps);show sbb (El.hsl (sbP lk) sc (Ex.hsl (sbP lk) sc false h x.exps) l)=_;rw[h1,Ex.sb_flagl hg,qqH,El.sbadl,qsh];unfold El.w;rw[Ex.wl_map]
omit hg in
theorem qnF(sc:Scs)(k:Int)(h:(sbP lk).H)(t:Bz):sbb ((sbP lk).clS sc k h t)=(sbb h || (decide (k=6) && qaP lk sc t)):=by
 unfold Pw.clS;by_cases h6:k=6
 ·rw[if_pos h6,decide_eq_true h6,qrQ];rfl
 ·rw[if_neg h6,decide_eq_false h6,qsA,qrw]
mutual
theorem Sm.sb_flag:∀(s:Sm) (sc:Scs) (n:Nat) (h:(sbP lk).H),(Pa.st s).valid nm=true→sbb (s.hs (sbP lk) sc n h)=(sbb h || (s.w g sc n).sbad lk)
 | .mk l k t gs e hh d b,sc,n,h,v=>by
  obtain ⟨v7,v8,v9⟩:=Sm.valid_block v;have vd:=Sm.valid_decls v;have vb:=Sm.valid_body v;simp only[Sm.decls,Sm.body] at vd vb;rw[Sm.hs,Sm.w];by_cases h7:k=7
  ·obtain ⟨rfl,rfl,rfl⟩:=v7 h7;have h6:¬ k=6:=by omega
   rw[if_pos h7,if_pos h7,Sm.sbad,Sm.sb_flagl b _ _ _ vb,De.sb_flagl d _ _ _ _ vd,Zl,Ex.hsl,decide_eq_false h6];simp[Ex.sbadl,El.sbadl,qsh]
  ·rw[if_neg h7,if_neg h7];by_cases h8:k=8
   ·obtain ⟨rfl,rfl,rfl,rfl⟩:=v8 h8;have h6:¬ k=6:=by omega
    rw[if_pos h8,if_pos h8,Sm.sbad,Sm.sb_flagl b _ _ _ vb,Zl,Ex.hsl,decide_eq_false h6];simp[Ex.sbadl,El.sbadl,De.sbadl]
   ·rw[if_neg h8,if_neg h8,Sm.sbad,qnF,Sm.sb_flag1 b _ _ _ vb,El.sb_flagl hg,Ex.sb_flagl hg,Ex.sb_flagl hg];by_cases h6:k=6
    ·rw[if_pos h6,decide_eq_true h6,QR hg];simp[De.sbadl,qsh]
    ·rw[if_neg h6,decide_eq_false h6];simp[De.sbadl,qsh]
theorem De.sb_flag:∀(s:De) (own sc:Scs) (n:Nat) (h:(sbP lk).H),(Pa.de s).valid nm=true→sbb (s.hs (sbP lk) own sc n h)=(sbb h || (s.w g own sc n).sbad lk)
 | .mk k o t ns e fo b,own,sc,n,h,v=>by
  obtain ⟨v4,v5⟩:=De.valid_proc v;have vb:=De.valid_body v;simp only[De.body] at vb;rw[De.hs,De.w];by_cases h4:k=4
  ·obtain rfl:=v4 h4;rw[if_pos h4,if_pos h4,De.sbad,Sm.sb_flag1 b _ _ _ vb,Zl,Ex.hsl];simp[Ex.sbadl]
  ·rw[if_neg h4,if_neg h4,De.sbad,Ex.sb_flagl hg];simp[Sm.sbadl]
theorem De.sb_flagl:∀(l:List De) (own sc:Scs) (n:Nat) (h:(sbP lk).H),(∀x,x∈l→(Pa.de x).valid nm=true)→sbb (De.hsl (sbP lk) own sc n h l)=(sbb h || De.sbadl lk (De.wl g own sc n l))
 | [],_,_,_,h,_=>by rw[De.hsl,De.wl,De.sbadl,qrw]
 | x::l,own,sc,n,h,v=>by
  rw[De.hsl,De.sb_flagl l own sc _ _ fun y hy=>v y (by simp[hy]),De.sb_flag x own sc n h (v x (by simp)),De.wl,De.sbadl,qsh]
theorem Sm.sb_flagl:∀(l:List Sm) (sc:Scs) (n:Nat) (h:(sbP lk).H),(∀x,x∈l→(Pa.st x).valid nm=true)→sbb (Sm.hsl (sbP lk) sc n h l)=(sbb h || Sm.sbadl lk (Sm.wl g sc n l))
 | [],_,_,h,_=>by rw[Sm.hsl,Sm.wl,Sm.sbadl,qrw]
 | x::l,sc,n,h,v=>by
  rw[Sm.hsl,Sm.sb_flagl l sc _ _ fun y hy=>v y (by simp[hy]),Sm.sb_flag x sc n h (v x (by simp)),Sm.wl,Sm.sbadl,qsh]
theorem Sm.sb_flag1:∀(l:List Sm) (sc:Scs) (n:Nat) (h:(sbP lk).H),(∀x,x∈l→(Pa.st x).valid nm=true)→sbb (Sm.hs1 (sbP lk) sc n h l)=(sbb h || Sm.sbadl lk (Sm.w1 g sc n l))
 | [],_,_,h,_=>by rw[Sm.hs1,Sm.w1,Sm.sbadl,qrw]
 | x::l,sc,n,h,v=>by
  rw[Sm.hs1,Sm.sb_flag1 l sc _ _ fun y hy=>v y (by simp[hy]),Sm.sb_flag x _ _ _ (v x (by simp)),Zl,Sm.w1,Sm.sbadl,qsh]
end
omit hg in
theorem Ex.wl_id{sc:Scs}:∀(l:List Ex),(∀x,x∈l→x.w g sc=x)→Ex.wl g sc l=l
 | [],_=>rfl
 | x::l,h=>by rw[Ex.wl,h x (by simp),Ex.wl_id l fun y hy=>h y (by simp[hy])]
omit hg in
mutual
theorem Ex.w_free{sc:Scs}:∀x:Ex,(∀u,u∈x.occ→sc.at u=none)→x.w g sc=x
 | .mk k o n m e t a,h=>by
  rw[Ex.occ] at h;rw[Ex.w,Ex.wl_free a fun u hu=>h u (qqK _ hu)];by_cases hn:Ex.named k=true
  ·rw[if_pos hn] at h ⊢;have:=h t (by simp);unfold zn;rw[this]
  ·rw[if_neg hn]
theorem Ex.wl_free{sc:Scs}:∀l:List Ex,(∀u,u∈Ex.occl l→sc.at u=none)→Ex.wl g sc l=l
 | [],_=>rfl
 | x::l,h=>by
  rw[Ex.occl] at h;rw[Ex.wl,Ex.w_free x fun u hu=>h u (qqK _ hu),Ex.wl_free l fun u hu=>h u (qqN _ hu)]
end
def Cl(lk:Lk)(e:Oc):Prop:=e.2.at e.1=none→∀y,lk e.1=some y→∀u,u∈y.occ→e.2.at u=none
theorem qm7{sc:Scs}{t:Bz}(hb:qaP lk sc t=false)(hc:Cl lk (t,sc)):zn g sc (sbT lk sc t)=sbn lk (zn g sc t):=by
 rw[qhA hg];unfold sbT qaP at *
 cases hs:sc.at t with
 | some k=>simp only[hs];unfold zn;rw[hs]
 | none=>
  rw[hs] at hb;simp only;unfold jO at hb;unfold sbn
  cases hy:lk t with
  | none=>simp only;unfold zn;rw[hs]
  | some y=>
   rw[hy] at hb;simp only[decide_not,qso,decide_eq_true_eq] at hb
   have hu:y.text∈y.occ:=by
    cases y;simp only[Ex.kind] at hb;subst hb;rw[Ex.occ,if_pos (by rfl)];simp[Ex.text]
   have:=hc hs y hy y.text hu;simp only at this;show zn g sc y.text=y.text;unfold zn;rw[this]
mutual
theorem Ex.sb_w(sc:Scs)(tg:Bool):∀(x:Ex),(x.w g sc).sbad lk tg=false→(∀e,e∈x.ev sc→Cl lk e)→(x.wr (sbP lk) sc tg).w g sc=(x.w g sc).sb lk
 | .mk k o n m e t a,hb,he=>by
  rw[Ex.w,Ex.sbad,qqJ] at hb;rw[Ex.ev] at he;have h1:=Ex.sb_wl sc false a hb.1 fun x hx=>he x (qqK _ hx)
  have hb:=hb.2
  have h2:Ex.wr (sbP lk) sc tg (.mk k o n m e t a)=if Ex.named k=true then (if k=6 then sbX lk sc (.mk k o n m e t (Ex.wrl (sbP lk) sc false a)) else .mk k o n m e (sbT lk sc t) (Ex.wrl (sbP lk) sc false a)) else .mk k o n m e t (Ex.wrl (sbP lk) sc false a):=by
   rw[Ex.wr];rfl
  rw[h2,Ex.w];by_cases h6:k=6
  ·have hn:Ex.named k=true:=by rw[h6];rfl
   rw[if_pos hn] at he;have hc:=he (t,sc) (by simp);rw[if_pos hn,if_pos h6,if_pos hn,Ex.sb,if_pos h6];unfold sbX;simp only[Ex.text]
   cases hs:sc.at t with
   | some j=>
    have hr:zn g sc t=g j:=by unfold zn;rw[hs]
    simp only;rw[Ex.w,if_pos hn,hr,hg,h1]
   | none=>
    have hr:zn g sc t=t:=by unfold zn;rw[hs]
    rw[hr]
    cases hy:lk t with
    | none=>
     simp only[Option.getD_none];rw[Ex.w,if_pos hn,hr,h1]
    | some y=>
     simp only[Option.getD_some];exact Ex.w_free y (hc hs y hy)
  ·rw[if_neg h6] at hb;rw[Ex.sb,if_neg h6];by_cases hn:Ex.named k=true
   ·rw[if_pos hn] at he hb;rw[hn,qrQ,QR hg] at hb;rw[if_pos hn,if_neg h6,if_pos hn,if_pos hn,Ex.w,if_pos hn,h1,qm7 hg hb (he (t,sc) (by simp))]
   ·rw[if_neg hn,if_neg hn,if_neg hn,Ex.w,if_neg hn,h1,if_neg h6]
theorem Ex.sb_wl(sc:Scs)(tg:Bool):∀(l:List Ex),Ex.sbadl lk tg (Ex.wl g sc l)=false→(∀e,e∈Ex.evl sc l→Cl lk e)→Ex.wl g sc (Ex.wrl (sbP lk) sc tg l)=Ex.sbl lk (Ex.wl g sc l)
 | [],_,_=>rfl
 | x::l,hb,he=>by
  rw[Ex.wl,Ex.sbadl,qqJ] at hb;rw[Ex.evl] at he;rw[Ex.wrl,Ex.wl,Ex.wl,Ex.sbl,Ex.sb_w sc tg x hb.1 fun e h=>he e (qqK _ h),Ex.sb_wl sc tg l hb.2 fun e h=>he e (qqN _ h)]
end
theorem El.sb_wl(sc:Scs):∀(l:List El),El.sbadl lk (l.map (El.w g sc))=false→(∀e,e∈El.evl sc l→Cl lk e)→(l.map (El.wr (sbP lk) sc)).map (El.w g sc)=(l.map (El.w g sc)).map (El.sb lk)
 | [],_,_=>rfl
 | x::l,hb,he=>by
  rw[qqH,El.sbadl,qqJ] at hb;rw[El.evl] at he;have hx:(El.w g sc x).exps=Ex.wl g sc x.exps:=by unfold El.w;rw[Ex.wl_map]
  rw[hx] at hb;have h1:=Ex.sb_wl hg sc false x.exps hb.1 fun e h=>he e (qqK _ h)
  rw[qqH,qqH,qqH,qqH,El.sb_wl sc l hb.2 fun e h=>he e (qqN _ h)];congr 1;unfold El.wr El.w El.sb;simp only;rw[←Ex.wl_map,h1,Ex.wl_map]
omit hg in
theorem jP:∀(k:Nat) (x:Bz),(sbP lk).f k x=x:=fun _ _=>rfl
omit hg in
theorem qjl(sc:Scs)(k:Int)(t:Bz):(sbP lk).clE sc k t=if k=6 then sbT lk sc t else t:=rfl
mutual
theorem Sm.sb_w:∀(s:Sm) (sc:Scs) (n:Nat),(Pa.st s).valid nm=true→(s.w g sc n).sbad lk=false→(∀e,e∈s.ev sc n→Cl lk e)→(s.wr (sbP lk) sc n).w g sc n=(s.w g sc n).sb lk
 | .mk l k t gs e hh d b,sc,n,v,hb,he=>by
  obtain ⟨v7,v8,v9⟩:=Sm.valid_block v;have vd:=Sm.valid_decls v;have vb:=Sm.valid_body v;simp only[Sm.decls,Sm.body] at vd vb;rw[Sm.w] at hb;rw[Sm.ev] at he;by_cases h7:k=7
  ·obtain ⟨rfl,rfl,rfl⟩:=v7 h7;have h6:¬ k=6:=by omega
   rw[if_pos h7,Sm.sbad] at hb;rw[if_pos h7] at he;simp only[qqJ] at hb;simp only[Sm.wr,Sm.w,if_pos h7];rw[zT jP,Yn jP,De.nbl_wr jP d _ _ _ vd,De.sb_wl d _ _ _ vd hb.1.1.2 fun e h=>he e (qqK _ h),Sm.sb_wl b _ _ vb hb.1.2 fun e h=>he e (qqN _ h),Sm.sb,if_neg h6];rfl
  ·by_cases h8:k=8
   ·obtain ⟨rfl,rfl,rfl,rfl⟩:=v8 h8;have h6:¬ k=6:=by omega
    rw[if_neg h7,if_pos h8,Sm.sbad] at hb;rw[if_neg h7,if_pos h8] at he;simp only[qqJ] at hb;simp only[Sm.wr,Sm.w,if_neg h7,if_pos h8];rw[zT jP,Sm.wrl_labels jP,Sm.sb_wl b _ _ vb hb.1.2 he,Sm.sb,if_neg h6];rfl
   ·obtain rfl:=v9 h7 h8;rw[if_neg h7,if_neg h8,Sm.sbad] at hb;rw[if_neg h7,if_neg h8] at he;simp only[qqJ] at hb;obtain ⟨⟨⟨⟨⟨b1,b2⟩,b3⟩,_⟩,b5⟩,b6⟩:=hb;simp only[Sm.wr,Sm.w,if_neg h7,if_neg h8];rw[zT jP,Ex.sb_wl hg sc true gs b1 fun x hx=>he x (by simp[hx]),Ex.sb_wl hg sc false e b2 fun x hx=>he x (by simp[hx]),El.sb_wl hg sc hh b3 fun x hx=>he x (by simp[hx]),Sm.sb_w1 b sc n vb b5 fun x hx=>he x (by simp[hx]),Sm.sb];rw[qjl];by_cases h6:k=6
    ·rw[if_pos h6] at he;rw[if_pos h6,decide_eq_true h6,qrQ,QR hg] at b6;rw[if_pos h6,if_pos h6,if_pos h6,if_pos h6,qm7 hg b6 (he (t,sc) (by simp))];rfl
    ·simp only[if_neg h6];rfl
theorem De.sb_w:∀(s:De) (own sc:Scs) (n:Nat),(Pa.de s).valid nm=true→(s.w g own sc n).sbad lk=false→(∀e,e∈s.ev own sc n→Cl lk e)→(s.wr (sbP lk) own sc n).w g own sc n=(s.w g own sc n).sb lk
 | .mk k o t ns e fo b,own,sc,n,v,hb,he=>by
  obtain ⟨v4,v5⟩:=De.valid_proc v;have vb:=De.valid_body v;simp only[De.body] at vb;rw[De.w] at hb;rw[De.ev] at he;by_cases h4:k=4
  ·obtain rfl:=v4 h4;rw[if_pos h4,De.sbad,qqJ] at hb;rw[if_pos h4] at he;simp only[De.wr,De.w,if_pos h4];rw[zT jP,Fo.wr_id jP,Sm.sb_w1 b _ _ vb hb.2 he,De.sb];rfl
  ·obtain ⟨rfl,rfl⟩:=v5 h4;rw[if_neg h4,De.sbad,qqJ] at hb;rw[if_neg h4] at he;simp only[De.wr,De.w,if_neg h4];rw[zT jP,Ex.sb_wl hg _ false e hb.1 he,De.sb];rfl
theorem De.sb_wl:∀(l:List De) (own sc:Scs) (n:Nat),(∀x,x∈l→(Pa.de x).valid nm=true)→De.sbadl lk (De.wl g own sc n l)=false→(∀e,e∈De.evl own sc n l→Cl lk e)→De.wl g own sc n (De.wrl (sbP lk) own sc n l)=De.sbl lk (De.wl g own sc n l)
 | [],_,_,_,_,_,_=>rfl
 | x::l,own,sc,n,v,hb,he=>by
  rw[De.wl,De.sbadl,qqJ] at hb;rw[De.evl] at he;rw[De.wrl,De.wl,De.wl,De.sbl,De.nb_wr jP x own sc n (v x (by simp)),De.sb_w x own sc n (v x (by simp)) hb.1 fun e h=>he e (qqK _ h),De.sb_wl l own sc _ (fun y hy=>v y (by simp[hy])) hb.2 fun e h=>he e (qqN _ h)]
theorem Sm.sb_wl:∀(l:List Sm) (sc:Scs) (n:Nat),(∀x,x∈l→(Pa.st x).valid nm=true)→Sm.sbadl lk (Sm.wl g sc n l)=false→(∀e,e∈Sm.evl sc n l→Cl lk e)→Sm.wl g sc n (Sm.wrl (sbP lk) sc n l)=Sm.sbl lk (Sm.wl g sc n l)
 | [],_,_,_,_,_=>rfl
 | x::l,sc,n,v,hb,he=>by
  rw[Sm.wl,Sm.sbadl,qqJ] at hb;rw[Sm.evl] at he;rw[Sm.wrl,Sm.wl,Sm.wl,Sm.sbl,Sm.nb_wr jP x sc n (v x (by simp)),Sm.sb_w x sc n (v x (by simp)) hb.1 fun e h=>he e (qqK _ h),Sm.sb_wl l sc _ (fun y hy=>v y (by simp[hy])) hb.2 fun e h=>he e (qqN _ h)]
theorem Sm.sb_w1:∀(l:List Sm) (sc:Scs) (n:Nat),(∀x,x∈l→(Pa.st x).valid nm=true)→Sm.sbadl lk (Sm.w1 g sc n l)=false→(∀e,e∈Sm.ev1 sc n l→Cl lk e)→Sm.w1 g sc n (Sm.wr1 (sbP lk) sc n l)=Sm.sbl lk (Sm.w1 g sc n l)
 | [],_,_,_,_,_=>rfl
 | x::l,sc,n,v,hb,he=>by
  rw[Sm.w1,Sm.sbadl,qqJ] at hb;rw[Sm.ev1] at he;rw[Sm.wr1,Sm.w1,Sm.w1,Sm.sbl,Sm.wr_labels jP,Sm.nb_wr jP x _ _ (v x (by simp)),Sm.sb_w x _ _ (v x (by simp)) hb.1 fun e h=>he e (qqK _ h),Sm.sb_w1 l sc _ (fun y hy=>v y (by simp[hy])) hb.2 fun e h=>he e (qqN _ h)]
end
end
abbrev Ae:=Bz×Ex
def lkL:List Ae→Lk
 | [],_=>none
 | e::es,x=>if e.1=x then some e.2 else lkL es x
def aeT(e:Ae):V×V:=(.str e.1,e.2.v)
theorem YT(x:Bz):∀(t:List Ae) (i:Nat),∃j,zC .str (.str x) (t.map aeT) i=some ((lkL t x).map fun y=>(j,y.v))
 | [],i=>⟨0,rfl⟩
 | e::t,i=>by
  simp only[qqH,aeT,zC,YX,lkL];by_cases h:x=e.1
  ·rw[show (x.data.toList==e.1.data.toList)=true by rw[h];simp,if_pos h.symm];exact ⟨i,rfl⟩
  ·rw[show (x.data.toList==e.1.data.toList)=false by
    rw[beq_eq_false_iff_ne];intro hh;exact h (qsn (Array.ext' hh)),if_neg (Ne.symm h)]
   exact YT x t (i+1)
def lkE(es:List Ae)(x:Bz):V:=match lkL es x with
 | some y=>y.v
 | none=>zeX
theorem qgX{S:St}{m:Nat}{es:List Ae}{bs:List Nat}{ck:Nat}(x:Bz)(h:S[m]?=some (.map (es.map aeT) bs ck)):
  qbT S .str (.agg [.int .i64 0,.int .i64 0,.int .i64 0,.int .i64 0,.int .i64 0,.str ⟨⟨[]⟩⟩,.sl true []]) true (.map m) (.str x)=some (.tup [lkE es x,.bool (lkL es x).isSome]):=by
 obtain ⟨j,hj⟩:=YT x es 0;unfold qbT lkE;rw[if_pos (by rfl)];simp only[qbB,h,hj];cases lkL es x <;> rfl
structure Sbs(es:List Ae)(cb m cg ct:Nat)(h:Bool)(F D:Np)(U:St):Prop where
 b:U[cb]?=some (.arr [.map m] 1 1)
 mm:∃bs ck,U[m]?=some (.map (es.map aeT) bs ck)
 g:U[cg]?=some (.arr [.bool h] 1 1)
 t:U[ct]?=some (.arr [.fn (.func 148) [] [.ptr cb 0 0 1,.ptr cg 0 0 1]] 1 1)
 hF:∀l,F l↔l=cg
 hD:∀l,D l↔l=cb∨l=m∨l=ct
section
variable {es:List Ae} {cb m cg ct:Nat} {h:Bool} {F D:Np} {U:St}
theorem Sbs.fr{U':St}{M:Np}(k:Sbs es cb m cg ct h F D U)(hk:Kp M U U')(hM:∀l,M l→l<U.length→¬ F l∧¬ D l):Sbs es cb m cg ct h F D U':=by
 obtain ⟨bs,ck,hm⟩:=k.mm;exact ⟨hk.at k.b fun hh=>(hM _ hh (glt k.b)).2 ((k.hD _).2 (.inl rfl)),⟨bs,ck,hk.at hm fun hh=>(hM _ hh (glt hm)).2 ((k.hD _).2 (.inr (.inl rfl)))⟩,hk.at k.g fun hh=>(hM _ hh (glt k.g)).1 ((k.hF _).2 rfl),hk.at k.t fun hh=>(hM _ hh (glt k.t)).2 ((k.hD _).2 (.inr (.inr rfl))),k.hF,k.hD⟩
theorem Sbs.put(k:Sbs es cb m cg ct h F D U)(h':Bool):Sbs es cb m cg ct h' F D (U.set cg (.arr [.bool h'] 1 1)):=by
 obtain ⟨bs,ck,hm⟩:=k.mm;exact ⟨by rw[qqB (jU k.g k.b (by simp))];exact k.b,⟨bs,ck,by rw[qqB (jU k.g hm (by simp))];exact hm⟩,qqz (glt k.g),by rw[qqB (jU k.g k.t (by simp))];exact k.t,k.hF,k.hD⟩
theorem Sbs.lt(k:Sbs es cb m cg ct h F D U){l:Nat}(hl:F l∨D l):l<U.length:=by
 rcases hl with hl|hl
 ·rw[(k.hF l).1 hl];exact glt k.g
 ·rcases (k.hD l).1 hl with rfl|rfl|rfl
  ·exact glt k.b
  ·obtain ⟨_,_,hm⟩:=k.mm;exact glt hm
  ·exact glt k.t
theorem qi8{lk:Lk}{sc:Scs}{x:Bz}(h:lk x=none):sbT lk sc x=x∧qaP lk sc x=false:=by
 unfold sbT qaP sbn jO;cases sc.at x <;> simp[h]
theorem qiB{lk:Lk}{sc:Scs}{x:Bz}{y:Ex}(h:lk x=some y)(hs:sc.at x=none):sbT lk sc x=y.text∧qaP lk sc x=decide (y.kind≠6):=by
 unfold sbT qaP sbn jO;simp[h,hs]
theorem qnU{lk:Lk}{sc:Scs}{x:Bz}(hs:(sc.at x).isSome=true):sbT lk sc x=x∧qaP lk sc x=false:=by
 unfold sbT qaP
 cases h:sc.at x with
 | none=>rw[h] at hs;cases hs
 | some k=>simp
theorem qgP(k:Sbs es cb m cg ct h F D U){p:Pw}{X:Np}{w:V}{ts:List Sct}(hsc:ScR p X U w ts)(x:Bz):
  qv prog 148 [.str x,w,.ptr cb 0 0 1,.ptr cg 0 0 1] U (fun r U'=>r=.str (sbT (lkL es) (Scx ts) x)∧Sbs es cb m cg ct (h || qaP (lkL es) (Scx ts) x) F D U'∧Kp F U U'):=by
 refine qv.ib func148 ok148 ?_;have hb:=k.b;obtain ⟨bs,ck,hm⟩:=k.mm;have hl:=qgX (es:=es) (bs:=bs) (ck:=ck) x hm;simp[c148,ldS,hb,evX,hl]
 cases hy:lkL es x with
 | none=>
  obtain ⟨e1,e2⟩:=qi8 (sc:=Scx ts) hy;rw[e1,e2,qrw];have hE:lkE es x=zeX:=by unfold lkE;rw[hy]
  rw[hE];unfold zeX;simp[qE,stS,qi];refine qg (vs:=[.str x]) (by simp[rvs]) ⟨rfl,?_,?_⟩
  ·exact k.fr (M:=fun _=>False) ((Kp.refl _ _).push _) fun _ h=>h.elim
  ·exact (Kp.refl _ _).push _
 | some y=>
  have hE:lkE es x=y.v:=by unfold lkE;rw[hy]
  rw[hE];have hn:V.upd (.agg [.int .i64 0,.int .i64 0,.int .i64 0,.int .i64 0,.int .i64 0,.str ⟨⟨[]⟩⟩,.sl true []]) 0 7 y.v=some y.v:=by rw[qi];simp
  simp[qE,stS,hn];obtain ⟨U1,hU1⟩:∃U1:St,U1=U++[.arr [y.v] 7 1]:=⟨_,rfl⟩;have b0:U1[U.length]?=some (.arr [y.v] 7 1):=by rw[hU1];simp
  have kp1:Kp F U U1:=by rw[hU1];exact (Kp.refl _ _).push _
  have k1:Sbs es cb m cg ct h F D U1:=by rw[hU1];exact k.fr (M:=fun _=>False) ((Kp.refl _ _).push _) fun _ h=>h.elim
  have s1:ScR p X U1 w ts:=by rw[hU1];exact hsc.push _
  rw[←hU1];clear hU1;refine qe (jj s1 x) ?_;have hf:=Jw ts x
  cases hfd:fnd ts x with
  | some q=>
   have hs:((Scx ts).at x).isSome=true:=by rw[hf,hfd];rfl
   obtain ⟨e1,e2⟩:=qnU (lk:=lkL es) hs;rw[e1,e2,qrw];simp[YU,hfd,yz,eqV];exact qg (vs:=[.str x]) (by simp[rvs]) ⟨rfl,k1,kp1⟩
  | none=>
   have hs:(Scx ts).at x=none:=by rw[hf,hfd];rfl
   obtain ⟨e1,e2⟩:=qiB hy hs;rw[e1,e2];have g1:=k1.g;have fin:∀(b':Bool) (e:Env),e.get 6=some (.str y.text)→jH [.t 6] U.length (fun r U'=>r=.str y.text∧Sbs es cb m cg ct b' F D U'∧Kp F U U') .ret e (U1.set cg (.arr [.bool b'] 1 1)):=
    fun b' e he=>qg (vs:=[.str y.text]) (by simp[rvs,he]) ⟨rfl,k1.put b',kp1.set _ (.inl ((k.hF cg).2 rfl))⟩
   have ng:∀o,(U1.set cg o)[U.length]?=some (.arr [y.v] 7 1):=fun o=>by
    rw[qqB (by have:=glt k.g;omega)];exact b0
   cases h with
   | true=>
    simp[YU,hfd,yz,eqV,ldS,g1,stS,zG,ng];refine fin true _ ?_;simp
   | false=>
    simp[YU,hfd,yz,eqV,ldS,g1,b0,stS,zG,ng];exact fin _ _ (by simp)
theorem qjZ(hz:∀x y,lkL es x=some y→(Pa.ex y).size≤4000)(k:Sbs es cb m cg ct h F D U){p:Pw}{X:Np}{w:V}{ts:List Sct}(hsc:ScR p X U w ts)(x:Ex)(tg:Bool):
  qv prog 149 [x.v,w,.bool tg,.ptr ct 0 0 1,.ptr cb 0 0 1,.ptr cg 0 0 1] U (fun r U'=>r=(if x.kind=6 then sbX (lkL es) (Scx ts) x else .mk x.kind x.op x.n x.man x.exp (sbT (lkL es) (Scx ts) x.text) x.args).v∧Sbs es cb m cg ct (h || (if x.kind=6 then qeI (lkL es) (Scx ts) tg x.text else qaP (lkL es) (Scx ts) x.text)) F D U'∧Kp F U U'):=by
 refine qv.ib func149 ok149 ?_;simp[c149,qE];obtain ⟨U1,hU1⟩:∃U1:St,U1=U++[.arr [x.v] 7 1,.arr [.agg [.int .i64 0,.int .i64 0,.int .i64 0,.int .i64 0,.int .i64 0,.str ⟨⟨[]⟩⟩,.sl true []]] 7 1]:=⟨_,rfl⟩;rw[←hU1];have l1:U1.length=U.length+2:=by rw[hU1];simp
 have b0:U1[U.length]?=some (.arr [x.v] 7 1):=by rw[hU1];simp
 have b1:U1[U.length+1]?=some (.arr [.agg [.int .i64 0,.int .i64 0,.int .i64 0,.int .i64 0,.int .i64 0,.str ⟨⟨[]⟩⟩,.sl true []]] 7 1):=by rw[hU1,qqy (by omega)];simp
 have kp1:Kp F U U1:=by rw[hU1];exact (Kp.refl _ _).push _
 have k1:Sbs es cb m cg ct h F D U1:=by rw[hU1];exact k.fr (M:=fun _=>False) ((Kp.refl _ _).push _) fun _ h=>h.elim
 have s1:ScR p X U1 w ts:=by rw[hU1];exact hsc.push _
 clear hU1;have nF:∀j,¬ F (U.length+j):=fun j hf=>by have:=k.lt (.inl hf);omega
 have nD:∀j,¬ D (U.length+j):=fun j hf=>by have:=k.lt (.inr hf);omega
 have hn:∀y:Ex,V.upd (.agg [.int .i64 0,.int .i64 0,.int .i64 0,.int .i64 0,.int .i64 0,.str ⟨⟨[]⟩⟩,.sl true []]) 0 7 y.v=some y.v:=fun y=>by rw[qi];simp
 simp[ldS,b0];by_cases h6:x.kind=6
 case neg=>
  simp only[if_neg h6];have h7:=k1.t;simp[h6,ldS,h7,b0];refine qh (qgP k1 s1 x.text) ?_;rintro r U2 ⟨rfl,k2,kp2⟩;have c0:=kp2.at b0 (nF 0);have c1:=kp2.at b1 (nF 1);obtain ⟨y,hy⟩:∃y,y=sbT (lkL es) (Scx ts) x.text:=⟨_,rfl⟩;rw[←hy];obtain ⟨z,hz⟩:∃z:Ex,z=.mk x.kind x.op x.n x.man x.exp y x.args:=⟨_,rfl⟩;have hzv:Ob.arr [V.agg [.int .i64 x.kind,.int .i64 x.op,.int .i64 x.n,.int .i64 x.man,.int .i64 x.exp,.str y,.sl false (x.args.map Ex.v)]] 7 1=.arr [z.v] 7 1:=by rw[hz,Ex.v_eq];rfl
  rw[←hz];simp[stS,c0,qdx,qi];rw[hzv];have d0:(U2.set U.length (.arr [z.v] 7 1))[U.length]?=some (.arr [z.v] 7 1):=qqz (glt c0);have d1:(U2.set U.length (.arr [z.v] 7 1))[U.length+1]?=some (.arr [.agg [.int .i64 0,.int .i64 0,.int .i64 0,.int .i64 0,.int .i64 0,.str ⟨⟨[]⟩⟩,.sl true []]] 7 1):=by rw[qqB (by omega)];exact c1
  obtain ⟨U3,hU3⟩:∃U3,U3=U2.set U.length (.arr [z.v] 7 1):=⟨_,rfl⟩;rw[←hU3] at d0 d1 ⊢;simp[ldS,d0,stS,d1,qi];have hw:(U3.set (U.length+1) (.arr [z.v] 7 1))[U.length+1]?=some (.arr [z.v] 7 1):=qqz (glt d1);refine qg (vs:=[z.v]) (by simp[rvs,ldS,hw]) ⟨rfl,?_,?_⟩
  ·refine Sbs.fr (M:=fun l=>l=U.length∨l=U.length+1) k2 ?_ fun l hl _=>?_
   ·rw[hU3];exact ((Kp.refl _ _).set _ (.inl (.inl rfl))).set _ (.inl (.inr rfl))
   ·rcases hl with rfl|rfl
    ·exact ⟨nF 0,nD 0⟩
    ·exact ⟨nF 1,nD 1⟩
  ·rw[hU3];exact ((kp1.trans kp2).set _ (.inr (qqC _))).set _ (.inr (by omega))
 simp only[if_pos h6];have hb:=k1.b;obtain ⟨bs,ck,hm⟩:=k1.mm;have hl:=qgX (es:=es) (bs:=bs) (ck:=ck) x.text hm;simp[h6,ldS,b0,hb,evX,hl,qE];obtain ⟨v,hv⟩:∃v,v=lkE es x.text:=⟨_,rfl⟩
 have ux:V.upd (.agg [.int .i64 0,.int .i64 0,.int .i64 0,.int .i64 0,.int .i64 0,.str ⟨⟨[]⟩⟩,.sl true []]) 0 7 v=some v:=by
  rw[hv];unfold lkE
  cases lkL es x.text with
  | none=>rfl
  | some y=>exact hn y
 rw[←hv];simp[stS,ux];obtain ⟨U2,hU2⟩:∃U2:St,U2=U1++[.arr [v] 7 1]:=⟨_,rfl⟩;have c0:U2[U.length]?=some (.arr [x.v] 7 1):=by rw[hU2];exact gp b0
 have c1:U2[U.length+1]?=some (.arr [.agg [.int .i64 0,.int .i64 0,.int .i64 0,.int .i64 0,.int .i64 0,.str ⟨⟨[]⟩⟩,.sl true []]] 7 1):=by rw[hU2];exact gp b1
 have c2:U2[U1.length]?=some (.arr [v] 7 1):=by rw[hU2,qqy (by omega)];simp
 have kp2:Kp F U U2:=by rw[hU2];exact kp1.push _
 have k2:Sbs es cb m cg ct h F D U2:=by rw[hU2];exact k1.fr (M:=fun _=>False) ((Kp.refl _ _).push _) fun _ h=>h.elim
 have s2:ScR p X U2 w ts:=by rw[hU2];exact s1.push _
 rw[←hU2];clear hU2;have l2:=kp2.len
 have same:∀e:Env,e.get 9=some (.ptr (U.length+1) 0 0 1)→jH [.cell 9 (some 7)] U.length (fun r U'=>r=x.v∧Sbs es cb m cg ct h F D U'∧Kp F U U') .ret e (U2.set (U.length+1) (.arr [x.v] 7 1)):=fun e he=>by
  have hw:(U2.set (U.length+1) (.arr [x.v] 7 1))[U.length+1]?=some (.arr [x.v] 7 1):=qqz (glt c1);refine qg (vs:=[x.v]) (by simp[rvs,he,ldS,hw]) ⟨rfl,?_,kp2.set _ (.inr (by omega))⟩;exact k2.fr (M:=fun l=>l=U.length+1) ((Kp.refl _ _).set _ (.inl rfl)) fun l hl _=>by rw[hl];exact ⟨nF 1,nD 1⟩
 cases hy:lkL es x.text with
 | none=>
  have e1:sbX (lkL es) (Scx ts) x=x:=by unfold sbX;rw[hy];cases (Scx ts).at x.text <;> rfl
  have e2:qeI (lkL es) (Scx ts) tg x.text=false:=by unfold qeI qeM;rw[hy];cases (Scx ts).at x.text <;> rfl
  rw[e1,e2,qrw];simp[ldS,c0,stS,c1,qi];refine same _ ?_;simp
 | some y=>
  have hE:v=y.v:=by rw[hv];unfold lkE;rw[hy]
  subst hE;simp[ldS,c0];refine qe (jj s2 x.text) ?_;have hf:=Jw ts x.text
  cases hfd:fnd ts x.text with
  | some q=>
   have hs:(Scx ts).at x.text=some q.1:=by rw[hf,hfd];rfl
   have e1:sbX (lkL es) (Scx ts) x=x:=by unfold sbX;rw[hs]
   have e2:qeI (lkL es) (Scx ts) tg x.text=false:=by unfold qeI;rw[hs]
   rw[e1,e2,qrw];simp[YU,hfd,yz,eqV,ldS,c0,stS,c1,qi];refine same _ ?_;simp
  | none=>
   have hs:(Scx ts).at x.text=none:=by rw[hf,hfd];rfl
   have e1:sbX (lkL es) (Scx ts) x=y:=by unfold sbX;rw[hs,hy];rfl
   have e2:qeI (lkL es) (Scx ts) tg x.text=(tg && decide (y.kind≠6) && decide (y.kind≠7)):=by unfold qeI qeM;rw[hs,hy]
   rw[e1,e2];have g2:=k2.g;have lg:=glt k.g;have d1:∀b',(U2.set cg (.arr [.bool b'] 1 1))[U.length+1]?=some (.arr [.agg [.int .i64 0,.int .i64 0,.int .i64 0,.int .i64 0,.int .i64 0,.str ⟨⟨[]⟩⟩,.sl true []]] 7 1):=fun b'=>by rw[qqB (by omega)];exact c1
   have d2:∀b',(U2.set cg (.arr [.bool b'] 1 1))[U1.length]?=some (.arr [y.v] 7 1):=fun b'=>by rw[qqB (by omega)];exact c2
   have fin:∀(b':Bool) (U4:St),Kp (fun _=>False) (U2.set cg (.arr [.bool b'] 1 1)) U4→U4[U.length+1]?=some (.arr [.agg [.int .i64 0,.int .i64 0,.int .i64 0,.int .i64 0,.int .i64 0,.str ⟨⟨[]⟩⟩,.sl true []]] 7 1)∧∀e:Env,e.get 9=some (.ptr (U.length+1) 0 0 1)→
     jH [.cell 9 (some 7)] U.length (fun r U'=>r=y.v∧Sbs es cb m cg ct b' F D U'∧Kp F U U') .ret e (U4.set (U.length+1) (.arr [y.v] 7 1)):=fun b' U4 kp4=>by
    have k3:=k2.put b';have kp3:Kp F U (U2.set cg (.arr [.bool b'] 1 1)):=kp2.set _ (.inl ((k.hF cg).2 rfl));have e1:=kp4.at (d1 b') id;refine ⟨e1,fun e he=>?_⟩;have hw:(U4.set (U.length+1) (.arr [y.v] 7 1))[U.length+1]?=some (.arr [y.v] 7 1):=qqz (glt e1);refine qg (vs:=[y.v]) (by simp[rvs,he,ldS,hw]) ⟨rfl,?_,(kp3.trans (kp4.mono fun _ _ h=>h.elim)).set _ (.inr (by omega))⟩;exact k3.fr (M:=fun l=>l=U.length+1) ((kp4.mono fun _ _ h=>h.elim).set _ (.inl rfl)) fun l hl _=>by rw[hl];exact ⟨nF 1,nD 1⟩
   cases h with
   | true=>
    simp only[Bool.true_or];simp[YU,hfd,yz,eqV,ldS,g2,stS,zG,d2];refine qh (qdp y (hz _ _ hy) _) ?_;rintro r U4 ⟨rfl,kp4⟩;obtain ⟨f1,f2⟩:=fin _ U4 kp4;simp[stS,f1,hn];exact f2 _ (by simp)
   | false=>
    simp only[Bool.false_or]
    cases tg with
    | false=>
     simp only[qsA];simp[YU,hfd,yz,eqV,ldS,g2,stS,zG,d2];refine qh (qdp y (hz _ _ hy) _) ?_;rintro r U4 ⟨rfl,kp4⟩;obtain ⟨f1,f2⟩:=fin _ U4 kp4;simp[stS,f1,hn];exact f2 _ (by simp)
    | true=>
     simp only[qrQ];by_cases y6:y.kind=6
     ·simp[YU,hfd,yz,eqV,ldS,g2,c2,y6,stS,zG,d2];refine qh (qdp y (hz _ _ hy) _) ?_;rintro r U4 ⟨rfl,kp4⟩;obtain ⟨f1,f2⟩:=fin _ U4 kp4;simp[stS,f1,hn];exact f2 _ (by simp)
     ·simp[YU,hfd,yz,eqV,ldS,g2,c2,y6,stS,zG,d2];refine qh (qdp y (hz _ _ hy) _) ?_;rintro r U4 ⟨rfl,kp4⟩;obtain ⟨f1,f2⟩:=fin _ U4 kp4;simp[stS,f1,hn];exact f2 _ (by simp)
end
def sbC(es:List Ae)(cb m cg ct:Nat):Cb where
 toPw:=sbP (lkL es)
 fe:=.nilfn
 fn:=.fn (.func 149) [] [.ptr ct 0 0 1,.ptr cb 0 0 1,.ptr cg 0 0 1]
 fc:=.fn (.func 148) [] [.ptr cb 0 0 1,.ptr cg 0 0 1]
 I h F D U:=Sbs es cb m cg ct h F D U
 cn _ _:=True
 lim:=100001
theorem qn0(es:List Ae)(cb m cg ct:Nat)(hz:∀x y,lkL es x=some y→(Pa.ex y).size≤4000):(sbC es cb m cg ct).Ok where
 lim:=qqC _
 lt:=fun k l hl=>Sbs.lt k hl
 fr:=fun k hk hM=>Sbs.fr k hk hM
 lp:=fun {h F D S} k l o ho=>by
  have k:Sbs es cb m cg ct h F D S:=k;refine ⟨fun hf=>?_,fun hf=>?_⟩
  ·rw[(k.hF l).1 hf,k.g] at ho;cases ho
  ·rcases (k.hD l).1 hf with rfl|rfl|rfl
   ·rw[k.b] at ho;cases ho
   ·obtain ⟨_,_,hm⟩:=k.mm;rw[hm] at ho;cases ho
   ·rw[k.t] at ho;cases ho
 ce _ _:=trivial
 cm _ _ _ _:=trivial
 cc _ _ _:=trivial
 real:=fun {h F D S} k h'=>by
  have k:Sbs es cb m cg ct h F D S:=k;exact ⟨F,D,_,k.put h',(Kp.refl _ _).set _ (.inl ((k.hF cg).2 rfl)),grow.refl _ _,grow.refl _ _⟩
 en:=.inl ⟨rfl,fun _ _=>rfl,fun _ _ _=>rfl⟩
 nm:=⟨149,[.ptr ct 0 0 1,.ptr cb 0 0 1,.ptr cg 0 0 1],rfl,fun U x w ts tg w' h F D hsc k=>qv.mono (qjZ hz k hsc x tg) fun r U' ⟨a,b,c⟩=>⟨a,F,D,b,c,grow.refl _ _,grow.refl _ _⟩⟩
 cl:=⟨148,[.ptr cb 0 0 1,.ptr cg 0 0 1],rfl,fun U x w ts w' h F D hsc k=>qv.mono (qgP k hsc x) fun r U' ⟨a,b,c⟩=>⟨a,F,D,b,c,grow.refl _ _,grow.refl _ _⟩⟩
def qp9(es:List Ae)(m:Nat)(S:St)(r:V)(U:St):Prop:=∃w cb cg ct F D,r=.tup [.ptr w 0 0 1,.ptr cg 0 0 1]∧Wk (sbC es cb m cg ct) w 0 false F D U∧S.length≤w∧S.length≤cg∧(∀l,F l↔l=cg)∧Kp (fun _=>False) S U
theorem qoi(es:List Ae)(m:Nat)(bs:List Nat)(ck:Nat)(S:St)(hm:S[m]?=some (.map (es.map aeT) bs ck)):
  qv prog 96 [.map m] S (qp9 es m S):=by
 refine qv.ib func96 ok96 ?_;simp[c96,qE,ldS,stS,qH,qD,evX,zG,Yr,qi,zW];obtain ⟨B,hB⟩:∃B,B=S.length:=⟨_,rfl⟩;rw[←hB];obtain ⟨U,hU⟩:∃U:St,U=S++[.arr [.map m] 1 1,.arr [.bool false] 1 1,.arr [.fn (.func 148) [] [.ptr B 0 0 1,.ptr (B+1) 0 0 1]] 1 1,.arr [.agg [.int .i64 0,.nilfn,.fn (.func 149) [] [.ptr (B+2) 0 0 1,.ptr B 0 0 1,.ptr (B+1) 0 0 1],.fn (.func 148) [] [.ptr B 0 0 1,.ptr (B+1) 0 0 1]]] 4 1]:=⟨_,rfl⟩;rw[←hU];have b0:U[B]?=some (.arr [.map m] 1 1):=by rw[hU,hB];simp
 have b1:U[B+1]?=some (.arr [.bool false] 1 1):=by rw[hU,hB,qqy (by omega)];simp
 have b2:U[B+2]?=some (.arr [.fn (.func 148) [] [.ptr B 0 0 1,.ptr (B+1) 0 0 1]] 1 1):=by rw[hU,hB,qqy (by omega)];simp
 have b3:U[B+3]?=some (.arr [.agg [.int .i64 0,.nilfn,.fn (.func 149) [] [.ptr (B+2) 0 0 1,.ptr B 0 0 1,.ptr (B+1) 0 0 1],.fn (.func 148) [] [.ptr B 0 0 1,.ptr (B+1) 0 0 1]]] 4 1):=by rw[hU,hB,qqy (by omega)];simp
 have bm:U[m]?=some (.map (es.map aeT) bs ck):=by rw[hU,qqA (glt hm)];exact hm
 have kS:Kp (fun _=>False) S U:=by rw[hU];exact (Kp.refl _ _).push _
 have lm:=glt hm;refine qg (vs:=[.ptr (B+3) 0 0 1,.ptr (B+1) 0 0 1]) (by simp[rvs]) ?_;refine ⟨B+3,B,B+1,B+2,(fun l=>l=B+1),(fun l=>l=B∨l=m∨l=B+2),rfl,?_,by omega,by omega,fun _=>Iff.rfl,kS⟩;have k:Sbs es B m (B+1) (B+2) false (fun l=>l=B+1) (fun l=>l=B∨l=m∨l=B+2) U:=⟨b0,⟨bs,ck,bm⟩,b1,b2,fun _=>Iff.rfl,fun _=>Iff.rfl⟩;exact ⟨b3,k,by omega,by omega,trivial⟩
def qhw:List Ex→Int
 | []=>0
 | x::l=>if (Pa.ex x).err qb≠0 then (Pa.ex x).err qb else qhw l
def prE(l:List Bz)(xs:List Ex):Int:=if l.length≠xs.length∨(JI l fun s=>!qb s)=true then 1 else if ¬ l.Nodup then 6 else qhw xs
def qpk(l:List Bz)(xs:List Ex)(S:St)(r:V)(U:St):Prop:=Kp (fun _=>False) S U∧((prE l xs≠0∧r=.tup [.nilmap,.int .i64 (prE l xs)])∨(prE l xs=0∧∃m bs ck,S.length≤m∧r=.tup [.map m,.int .i64 0]∧(Zc bs ck∧bs.length=(l.zip xs).length)∧U[m]?=some (.map ((l.zip xs).map aeT) bs ck)))
theorem qli(x:Bz)(S:St):Fn prog 139 [.str x] S (.bool (!qb x)):=by
 refine qv.ib func139 ok139 ?_;simp[c139];refine qe (jE x S) ?_;simp;exact qg rfl ⟨rfl,rfl⟩
theorem qag{x:Bz}:∀{es:List Ae},lkL es x=none↔x∉es.map (·.1)
 | []=>by simp[lkL]
 | e::es=>by
  simp only[lkL,qqH,qq0,not_or];by_cases h:e.1=x
  ·rw[if_pos h];simp[h.symm]
  ·rw[if_neg h,qag (es:=es)];exact ⟨fun g=>⟨fun hh=>h hh.symm,g⟩,fun g=>g.2⟩
theorem qov{S:St}{m:Nat}{t:List Ae}{bs:List Nat}{ck:Nat}(x:Bz)(y:Ex)(h:S[m]?=some (.map (t.map aeT) bs ck))(hx:lkL t x=none):
  qaY S .str (.map m) (.str x) y.v=some (S.set m (.map ((t++[(x,y)]).map aeT) (bs++[ck]) (ck+1))):=by
 obtain ⟨j,hj⟩:=YT x t 0;unfold qaY;rw[if_pos (by rfl)];simp only[h,hj,hx,qqX];rfl
theorem qnV(b b':Bool)(l:List Bz)(xs:List Ex)(hl:l.length≤1000)(hx:xs.length≤1000)(ox:∀x,x∈xs→x.ok)(S:St):
  qv prog 87 [.sl b (l.map .str),.sl b' (xs.map Ex.v)] S (qpk l xs S):=by
 refine qv.ib func87 ok87 ?_;have bad:∀(e:Int) (U:St) (ev:Env),prE l xs=e→e≠0→Kp (fun _=>False) S U→ev.get 4=some .nilmap→ev.get 5=some (.int .i64 e)→jH [.t 4,.t 5] S.length (qpk l xs S) .ret ev U:=fun e U ev he h0 hk g4 g5=>
  qg (vs:=[.nilmap,.int .i64 e]) (by simp[rvs,g4,g5]) ⟨hk,.inl ⟨by rw[he];exact h0,by rw[he];rfl⟩⟩
 have hpr:prE l xs=if l.length≠xs.length∨(JI l fun s=>!qb s)=true then 1 else if ¬ l.Nodup then 6 else qhw xs:=rfl
 simp only[c87,C'.k];refine zg (fun e U=>U=S∧e.get 0=some (.sl b (l.map .str))∧e.get 1=some (.sl b' (xs.map Ex.v))) (by simp[yN]) ?_;rintro e U ⟨rfl,g0,g1⟩;refine zg (fun e U'=>Kp (fun _=>False) U U'∧(l.length=xs.length∧(JI l fun s=>!qb s)=false)∧e.get 0=some (.sl b (l.map .str))∧e.get 1=some (.sl b' (xs.map Ex.v))) ?_ ?_
 ·simp[g0,g1];by_cases hn:l.length=xs.length
  ·simp[hn,g0];refine qh (qgp b l (by unfold B50;omega) 139 [] (fun s=>!qb s) U fun x _ V _=>qv.mono (qli x V) fun v V' ⟨a,c⟩=>⟨a,by rw[c];exact Kp.refl _ _⟩) ?_;rintro v U2 ⟨rfl,hk⟩
   cases hq:JI l fun s=>!qb s with
   | true=>
    rw[if_pos (.inr hq)] at hpr;simp;refine bad 1 _ _ hpr (by decide) hk ?_ ?_ <;> simp
   | false=>
    simp;exact ⟨hk,by simp[g0],by simp[g1]⟩
  ·rw[if_pos (.inl hn)] at hpr;have hn':¬ (l.length:Int)=xs.length:=by omega
   simp[hn'];refine bad 1 _ _ hpr (by decide) (Kp.refl _ _) ?_ ?_ <;> simp
 clear g0 g1 e;rintro e U' ⟨hk,⟨hn,hq⟩,g0,g1⟩;rw[if_neg (by rw[hq];simp[hn])] at hpr;refine zg (fun e U2=>Kp (fun _=>False) U U2∧(∃m,U.length≤m∧e.get 6=some (.map m)∧U2[m]?=some (.map [] [] 0))∧e.get 0=some (.sl b (l.map .str))∧e.get 1=some (.sl b' (xs.map Ex.v))) ?_ ?_
 ·simp[evX,g0,g1];exact ⟨hk.push _,_,hk.len,rfl,by simp⟩
 clear g0 g1 e;rintro e U2 ⟨hk2,⟨m,hm,g6,bm⟩,g0,g1⟩;refine zg (fun e U3=>Kp (fun _=>False) U U3∧l.Nodup∧(∃bs ck,(Zc bs ck∧bs.length=(l.zip xs).length)∧U3[m]?=some (.map ((l.zip xs).map aeT) bs ck))∧e.get 6=some (.map m)∧e.get 1=some (.sl b' (xs.map Ex.v))) ?_ ?_
 ·simp[g0];refine qN (fun e U3=>Kp (fun _=>False) U U3∧l.Nodup∧(∃bs ck,(Zc bs ck∧bs.length=(l.zip xs).length)∧U3[m]?=some (.map ((l.zip xs).map aeT) bs ck))∧e.get 6=some (.map m)∧e.get 1=some (.sl b' (xs.map Ex.v))) ?_ ?_
  ·refine qx (fun j e X=>∃i:Nat,j=l.length - i∧i≤l.length∧(l.take i).Nodup∧Kp (fun _=>False) U X∧(∃bs ck,(Zc bs ck∧bs.length=i)∧X[m]?=some (.map (((l.zip xs).take i).map aeT) bs ck))∧
    e=[(26,.int .i64 i),(25,.int .i64 l.length),(24,.sl b (l.map .str)),(6,.map m),(1,.sl b' (xs.map Ex.v))]) l.length _ ?_ ⟨0,by simp,by omega,by simp,hk2,⟨[],0,⟨Zc.nil,rfl⟩,by simpa using bm⟩,rfl⟩ ?_
   ·repeat' first|exact Env.sub_nil _|refine Env.sub_cons (by simp[g0,g1,g6]) ?_
   clear g0 g1 g6 e;rintro j e X ⟨i,rfl,hi,nd,kX,⟨bs,ck,hst,mX⟩,rfl⟩;by_cases h:i<l.length
   ·have hlk:=qgX (es:=(l.zip xs).take i) (bs:=bs) (ck:=ck) l[i] mX;have hi2:i<xs.length:=by omega
    have hzip:((l.zip xs).take i).map (·.1)=l.take i:=by
     rw[List.map_take,List.map_fst_zip (by omega)]
    cases hy:lkL ((l.zip xs).take i) l[i] with
    | some y=>
     rw[hy] at hlk
     have hdup:¬ l.Nodup:=fun hd=>by
      have h1:¬ lkL ((l.zip xs).take i) l[i]=none:=by rw[hy];simp
      rw[qag,hzip,Classical.not_not] at h1;have h2:=List.nodup_append.1 ((qrR i l).symm ▸ hd);exact h2.2.2 _ h1 _ (qqG (i:=0) (by rw[qrd];simp[h])) rfl
     rw[if_pos hdup] at hpr;have hE:lkE ((l.zip xs).take i) l[i]=y.v:=by unfold lkE;rw[hy]
     rw[hE] at hlk;have hn:V.upd (.agg [.int .i64 0,.int .i64 0,.int .i64 0,.int .i64 0,.int .i64 0,.str ⟨⟨[]⟩⟩,.sl true []]) 0 7 y.v=some y.v:=by rw[qi];simp
     simp[h,ZU,evX,hlk,qE,stS,hn];refine bad 6 _ _ hpr (by decide) (kX.push _) ?_ ?_ <;> simp
    | none=>
     rw[hy] at hlk;have hE:lkE ((l.zip xs).take i) l[i]=zeX:=by unfold lkE;rw[hy]
     rw[hE] at hlk;unfold zeX at hlk;have hn:V.upd (.agg [.int .i64 0,.int .i64 0,.int .i64 0,.int .i64 0,.int .i64 0,.str ⟨⟨[]⟩⟩,.sl true []]) 0 7 (.agg [.int .i64 0,.int .i64 0,.int .i64 0,.int .i64 0,.int .i64 0,.str ⟨⟨[]⟩⟩,.sl true []])=some (.agg [.int .i64 0,.int .i64 0,.int .i64 0,.int .i64 0,.int .i64 0,.str ⟨⟨[]⟩⟩,.sl true []]):=rfl;have mX2:(X++[.arr [.agg [.int .i64 0,.int .i64 0,.int .i64 0,.int .i64 0,.int .i64 0,.str ⟨⟨[]⟩⟩,.sl true []]] 7 1])[m]?=some (.map (((l.zip xs).take i).map aeT) bs ck):=gp mX;have hmu:=qov l[i] xs[i] mX2 hy;simp[h,ZU,evX,hlk,qE,stS,hn,qjA hi2,ldS,hmu];have kX2:Kp (fun _=>False) U ((X++[Ob.arr [.agg [.int .i64 0,.int .i64 0,.int .i64 0,.int .i64 0,.int .i64 0,.str ⟨⟨[]⟩⟩,.sl true []]] 7 1]).set m (.map (((l.zip xs).take i++[(l[i],xs[i])]).map aeT) (bs++[ck]) (ck+1))):=(kX.push _).set _ (.inr hm)
     have htk:(l.zip xs).take (i+1)=(l.zip xs).take i++[(l[i],xs[i])]:=by
      rw[qqW,qqD (by simp;omega)];simp
     refine ⟨_,?_,_,?_,i+1,rfl,by omega,?_,by simpa[List.map_take] using kX2,⟨bs++[ck],ck+1,⟨hst.1.snoc,by simp[hst.2]⟩,?_⟩,rfl⟩
     ·omega
     ·rw[qn (by omega) (by omega)];exact Env.so (by simp)
     ·rw[qqW,qqD h,qrk];rw[qag,hzip] at hy;refine List.nodup_append.2 ⟨nd,by simp,fun a ha c hc hh=>hy ?_⟩;simp at hc;rw[←hc,←hh];exact ha
     ·rw[qqz (glt mX2),←List.map_take,←List.map_take,htk,qqX];rfl
   ·have hil:i=l.length:=by omega
    rw[qq8 (by omega)] at nd;rw[qq8 (by rw[List.length_zip];omega)] at mX;simp[h];exact ⟨kX,nd,bs,ck,⟨hst.1,by rw[hst.2];omega⟩,mX⟩
  ·rintro e X ⟨a,b,c,d,e⟩;exact ⟨a,b,by simpa using c,d,e⟩
 clear g0 g1 g6 e;rintro e U3 ⟨hk3,nd,⟨bs,ck,hst,m3⟩,g6,g1⟩;rw[if_neg (by simpa using nd)] at hpr;refine zg (fun e U4=>Kp (fun _=>False) U3 U4∧qhw xs=0∧e.get 6=some (.map m)) ?_ ?_
 ·simp[g1];refine qN (fun e U4=>Kp (fun _=>False) U3 U4∧qhw xs=0∧e.get 6=some (.map m)) ?_ ?_
  ·refine qx (fun j e X=>∃i:Nat,j=xs.length - i∧i≤xs.length∧qhw xs=qhw (xs.drop i)∧Kp (fun _=>False) U3 X∧
    e=[(47,.int .i64 i),(46,.int .i64 xs.length),(45,.sl b' (xs.map Ex.v)),(6,.map m)]) xs.length _ ?_ ⟨0,by simp,by omega,by simp,Kp.refl _ _,rfl⟩ ?_
   ·repeat' first|exact Env.sub_nil _|refine Env.sub_cons (by simp[g1,g6]) ?_
   clear g1 g6 e;rintro j e X ⟨i,rfl,hi,hei,kX,rfl⟩;by_cases h:i<xs.length
   ·have hn:V.upd (.agg [.int .i64 0,.int .i64 0,.int .i64 0,.int .i64 0,.int .i64 0,.str ⟨⟨[]⟩⟩,.sl true []]) 0 7 xs[i].v=some xs[i].v:=by rw[qi];simp
    simp[h,qjA h,ldS,qE,stS,hn];refine qe (qjf xs[i] (ox _ (qqP h)) _) ?_;rw[qr8 h,qhw] at hei;by_cases he:(Pa.ex xs[i]).err qb=0
    ·rw[if_neg (by simpa using he)] at hei;simp[he];refine ⟨_,?_,_,?_,i+1,rfl,by omega,hei,kX.push _,rfl⟩
     ·omega
     ·rw[qn (by omega) (by omega)];exact Env.so (by simp)
    ·rw[if_pos he] at hei;simp[he];refine bad _ _ _ (hpr.trans hei) he (hk3.trans (kX.push _)) ?_ ?_ <;> simp
   ·rw[List.drop_of_length_le (by omega)] at hei;simp[h];exact ⟨kX,hei⟩
  ·rintro e X ⟨a,b,c⟩;simp[a,b,c]
 clear g1 g6 e;rintro e U4 ⟨hk4,he,g6⟩;simp[g6];refine qg (vs:=[.map m,.int .i64 0]) (by simp[rvs]) ⟨hk3.trans hk4,.inr ⟨hpr.trans he,m,bs,ck,hm,rfl,hst,?_⟩⟩;exact hk4.at m3 id
end Go.Proofs.YtbifpocccfkhhaaGreatDoor

namespace Go.Proofs.YtbifpocccfkhhaaGreatDoor
open Go
def Rd(v:V)(l:List Bz)(S:St):Prop:=lenS v=some (.int .i64 l.length)∧∀(i:Nat) (h:i<l.length),∃p,iaS S 1 v i=some p∧ldS S p none=some (.str l[i])
theorem Rd.sl(b:Bool)(l:List Bz)(S:St):Rd (.sl b (l.map .str)) l S:=⟨by simp[lenS],fun i h=>⟨_,ZU h b S,by simp[ldS]⟩⟩
theorem Rd.arr{lo wr:Nat}{l:List Bz}{S:St}(h:S[lo]?=some (.arr (l.map .str) 1 wr))(hw:wr≤l.length):Rd (.arr lo 0 l.length l.length) l S:=
 ⟨rfl,fun i hi=>⟨.ptr lo i 0 l.length,by simp[iaS,h,hw,hi],by simp[ldS,h,hw,hi]⟩⟩
open Go.Proofs.Tryz
theorem QZ(s:Bz)(taken:List Bz)(ht:taken.length≤899):∃n,1≤n∧n≤999∧YC s n∉taken∧∀i,1≤i→i<n→YC s i∈taken:=by
 have h1:¬ ∀i,i<900→YC s (100+i)∈taken:=fun h=>by
  have:=qgJ taken 900 (fun i=>YC s (100+i)) (fun i j hi hj he=>qhI hi hj he) h;omega
 have h2:∃n,1≤n∧n≤999∧YC s n∉taken:=by
  apply Classical.byContradiction;intro hn;exact h1 fun i hi=>Classical.byContradiction fun hc=>hn ⟨100+i,by omega,by omega,hc⟩
 obtain ⟨n,h1,h2,h3⟩:=h2
 induction n using Nat.strongRecOn with
 | ind n ih=>
  by_cases hm:∃m,1≤m∧m<n∧YC s m∉taken
  ·obtain ⟨m,a,b,c⟩:=hm;exact ih m b a (by omega) c
  ·exact ⟨n,h1,h2,h3,fun i hi hl=>Classical.byContradiction fun hc=>hm ⟨i,hi,hl,hc⟩⟩
theorem zd.exists(s:Bz)(taken:List Bz)(ht:taken.length≤899):∃t,zd s taken t:=by
 by_cases hs:s∈taken
 ·obtain ⟨n,h1,_,h2,h3⟩:=QZ s taken ht;exact ⟨_,.inr ⟨hs,n,h1,rfl,h2,h3⟩⟩
 ·exact ⟨s,.inl ⟨hs,rfl⟩⟩
theorem ql5(s:Bz)(g:Nat)(cs:List V)(p:Bz→Bool)(taken:List Bz)(S:St)(hp:∀x,Fn prog g ([.str x]++cs) S (.bool (p x)))(hk:∀x,p x=true↔x∈taken)(hs:s.size≤16)(ht:taken.length≤899):
  qv prog 77 [.str s,.fn (.func g) [] cs] S (fun v U=>(∃t,v=.str t∧zd s taken t)∧U=S):=by
 have nk:∀x,p x=false→x∉taken:=fun x h hh=>by
  rw[(hk x).2 hh] at h;cases h
 refine qv.ib func77 ok77 ?_;simp[c77];refine qe (hp s) ?_
 cases hi:p s with
 | false=>
  simp;exact qg rfl ⟨⟨s,rfl,.inl ⟨nk s hi,rfl⟩⟩,rfl⟩
 | true=>
  obtain ⟨N,hN1,hN2,hN3,hN4⟩:=QZ s taken ht;simp;refine qx (fun k e S'=>∃m:Nat,k=N - m∧1≤m∧m≤N∧S'=S∧e=[(5,.int .i64 m),(4,.str ⟨⟨[]⟩⟩),(0,.str s),(1,.fn (.func g) [] cs)]) (N - 1) _ ?_ ⟨1,rfl,by omega,hN1,rfl,rfl⟩ ?_
  ·exact Env.so (by simp)
  rintro k e S' ⟨m,rfl,hm1,hm2,rfl,rfl⟩;simp;refine qe (qe7 m (by omega) S') ?_;have hd:=qjF m (by omega);simp[evX,mmV,JD];rw[qoh,qqk _ _ hd,qox (by omega)];simp;rw[qhG (by rw[qoh];simp;omega),qlI];simp;refine qe (hp (YC s m)) ?_
  cases hc:p (YC s m) with
  | false=>
   simp;exact qg rfl ⟨⟨YC s m,rfl,.inr ⟨(hk _).1 hi,m,hm1,rfl,nk _ hc,fun i h1 h2=>hN4 i h1 (by omega)⟩⟩,rfl⟩
  | true=>
   have hmN:m≠N:=fun hh=>hN3 (by rw[←hh];exact (hk _).1 hc)
   simp;refine ⟨_,?_,_,?_,m+1,rfl,by omega,by omega,rfl⟩
   ·omega
   ·rw[qn (by omega) (by omega)];exact Env.so (by simp)
end Go.Proofs.YtbifpocccfkhhaaGreatDoor
namespace Go.Proofs
open Go.Shelf
def Tryz.keys137_ren:Go.Shelf.Ren:=⟨fun|7=>137|10=>172|n=>n,fun|23=>89|26=>9|3=>4|28=>168|0=>0|27=>167|33=>35|4=>4|n=>n,fun|n=>n⟩
theorem Tryz.keys137:Go.Proofs.SlLaysZ.n7 Tryz.prog Tryz.keys137_ren:={
 mixed:=by kernel_rfl
 f7:=⟨Tryz.f137.name,by decide,Tryz.func137.trans (congrArg some (by kernel_rfl))⟩
 f10:=⟨Tryz.f172.name,by decide,Tryz.func172.trans (congrArg some (by kernel_rfl))⟩
 t0:=Tryz.underlying0
 a0:=Tryz.isAgg0
 z0:=Tryz.sizeOf0
 v0:=Tryz.zeroValue0
 t4:=Tryz.underlying4
 a4:=Tryz.isAgg4
 z4:=Tryz.sizeOf4
 v4:=Tryz.zeroValue4
 t23:=Tryz.underlying89
 a23:=Tryz.isAgg89
 z23:=Tryz.sizeOf89
 v23:=Tryz.zeroValue89
 t26:=Tryz.underlying9
 a26:=Tryz.isAgg9
 z26:=Tryz.sizeOf9
 v26:=Tryz.zeroValue9
 t27:=Tryz.underlying167
 a27:=Tryz.isAgg167
 z27:=Tryz.sizeOf167
 v27:=Tryz.zeroValue167
 t28:=Tryz.underlying168
 a28:=Tryz.isAgg168
 z28:=Tryz.sizeOf168
 v28:=Tryz.zeroValue168
 t33:=Tryz.underlying35
 a33:=Tryz.isAgg35
 z33:=Tryz.sizeOf35
 v33:=Tryz.zeroValue35 }
def Tryz.sorted136_ren:Go.Shelf.Ren:=⟨fun|6=>136|8=>170|9=>171|11=>197|13=>199|12=>198|23=>247|24=>248|14=>238|15=>239|16=>240|17=>241|18=>242|19=>243|20=>244|21=>245|22=>246|25=>263|26=>264|27=>265|28=>266|29=>267|30=>268|31=>276|n=>n,fun|26=>9|28=>168|24=>22|0=>0|3=>3|37=>213|48=>254|50=>239|4=>4|40=>246|39=>245|45=>251|5=>5|9=>9|51=>266|55=>270|57=>286|58=>219|33=>35|n=>n,fun|n=>n⟩
theorem Tryz.sorted136:Go.Proofs.SlLaysZ.n6 Tryz.prog Tryz.sorted136_ren:={
 mixed:=by kernel_rfl
 f6:=⟨Tryz.f136.name,by decide,Tryz.func136.trans (congrArg some (by kernel_rfl))⟩
 f8:=⟨Tryz.f170.name,by decide,Tryz.func170.trans (congrArg some (by kernel_rfl))⟩
 f11:=⟨Tryz.f197.name,by decide,Tryz.func197.trans (congrArg some (by kernel_rfl))⟩
 t0:=Tryz.underlying0
 a0:=Tryz.isAgg0
 z0:=Tryz.sizeOf0
 v0:=Tryz.zeroValue0
 t24:=Tryz.underlying22
 a24:=Tryz.isAgg22
 z24:=Tryz.sizeOf22
 v24:=Tryz.zeroValue22
 t26:=Tryz.underlying9
 a26:=Tryz.isAgg9
 z26:=Tryz.sizeOf9
 v26:=Tryz.zeroValue9
 t28:=Tryz.underlying168
 a28:=Tryz.isAgg168
 z28:=Tryz.sizeOf168
 v28:=Tryz.zeroValue168
 i26:=by kernel_rfl }
def Tryz.sort171_ren:Go.Shelf.Ren:=⟨fun|6=>171|8=>199|9=>198|19=>247|20=>248|21=>238|22=>239|23=>240|24=>241|25=>242|26=>243|27=>244|28=>245|29=>246|36=>263|31=>264|32=>265|37=>266|38=>267|39=>268|41=>276|n=>n,fun|27=>22|29=>9|3=>3|32=>213|26=>22|0=>0|44=>254|46=>239|4=>4|36=>246|35=>245|41=>251|5=>5|9=>9|53=>266|57=>270|63=>286|64=>219|n=>n,fun|n=>n⟩
theorem Tryz.sort171:Go.Proofs.SlLaysM.n6 Tryz.prog Tryz.sort171_ren:={
 mixed:=by kernel_rfl
 f6:=⟨Tryz.f171.name,by decide,Tryz.func171.trans (congrArg some (by kernel_rfl))⟩
 f8:=Tryz.func199.trans (congrArg some (by kernel_rfl))
 f9:=⟨Tryz.f198.name,by decide,Tryz.func198.trans (congrArg some (by kernel_rfl))⟩
 f19:=Tryz.func247.trans (congrArg some (by kernel_rfl))
 f20:=Tryz.func248.trans (congrArg some (by kernel_rfl))
 f21:=⟨Tryz.f238.name,by decide,Tryz.func238.trans (congrArg some (by kernel_rfl))⟩
 f22:=⟨Tryz.f239.name,by decide,Tryz.func239.trans (congrArg some (by kernel_rfl))⟩
 f23:=⟨Tryz.f240.name,by decide,Tryz.func240.trans (congrArg some (by kernel_rfl))⟩
 f24:=⟨Tryz.f241.name,by decide,Tryz.func241.trans (congrArg some (by kernel_rfl))⟩
 f25:=⟨Tryz.f242.name,by decide,Tryz.func242.trans (congrArg some (by kernel_rfl))⟩
 f26:=⟨Tryz.f243.name,by decide,Tryz.func243.trans (congrArg some (by kernel_rfl))⟩
 f27:=⟨Tryz.f244.name,by decide,Tryz.func244.trans (congrArg some (by kernel_rfl))⟩
 f28:=⟨Tryz.f245.name,by decide,Tryz.func245.trans (congrArg some (by kernel_rfl))⟩
 f29:=⟨Tryz.f246.name,by decide,Tryz.func246.trans (congrArg some (by kernel_rfl))⟩
 f31:=Tryz.func264.trans (congrArg some (by kernel_rfl))
 f32:=Tryz.func265.trans (congrArg some (by kernel_rfl))
 f36:=⟨Tryz.f263.name,by decide,Tryz.func263.trans (congrArg some (by kernel_rfl))⟩
 f37:=⟨Tryz.f266.name,by decide,Tryz.func266.trans (congrArg some (by kernel_rfl))⟩
 f38:=⟨Tryz.f267.name,by decide,Tryz.func267.trans (congrArg some (by kernel_rfl))⟩
 f39:=⟨Tryz.f268.name,by decide,Tryz.func268.trans (congrArg some (by kernel_rfl))⟩
 f41:=⟨Tryz.f276.name,by decide,Tryz.func276.trans (congrArg some (by kernel_rfl))⟩
 t0:=Tryz.underlying0
 a0:=Tryz.isAgg0
 z0:=Tryz.sizeOf0
 v0:=Tryz.zeroValue0
 t3:=Tryz.underlying3
 a3:=Tryz.isAgg3
 z3:=Tryz.sizeOf3
 v3:=Tryz.zeroValue3
 t4:=Tryz.underlying4
 a4:=Tryz.isAgg4
 z4:=Tryz.sizeOf4
 v4:=Tryz.zeroValue4
 t5:=Tryz.underlying5
 a5:=Tryz.isAgg5
 z5:=Tryz.sizeOf5
 v5:=Tryz.zeroValue5
 t9:=Tryz.underlying9
 a9:=Tryz.isAgg9
 z9:=Tryz.sizeOf9
 v9:=Tryz.zeroValue9
 t26:=Tryz.underlying22
 a26:=Tryz.isAgg22
 z26:=Tryz.sizeOf22
 v26:=Tryz.zeroValue22
 t27:=Tryz.underlying22
 a27:=Tryz.isAgg22
 z27:=Tryz.sizeOf22
 v27:=Tryz.zeroValue22
 t29:=Tryz.underlying9
 a29:=Tryz.isAgg9
 z29:=Tryz.sizeOf9
 v29:=Tryz.zeroValue9
 t32:=Tryz.underlying213
 a32:=Tryz.isAgg213
 z32:=Tryz.sizeOf213
 v32:=Tryz.zeroValue213
 t35:=Tryz.underlying245
 a35:=Tryz.isAgg245
 z35:=Tryz.sizeOf245
 v35:=Tryz.zeroValue245
 t36:=Tryz.underlying246
 a36:=Tryz.isAgg246
 z36:=Tryz.sizeOf246
 v36:=Tryz.zeroValue246
 t41:=Tryz.underlying251
 a41:=Tryz.isAgg251
 z41:=Tryz.sizeOf251
 v41:=Tryz.zeroValue251
 t44:=Tryz.underlying254
 a44:=Tryz.isAgg254
 z44:=Tryz.sizeOf254
 v44:=Tryz.zeroValue254
 t46:=Tryz.underlying239
 a46:=Tryz.isAgg239
 z46:=Tryz.sizeOf239
 v46:=Tryz.zeroValue239
 t53:=Tryz.underlying266
 a53:=Tryz.isAgg266
 z53:=Tryz.sizeOf266
 v53:=Tryz.zeroValue266
 t57:=Tryz.underlying270
 a57:=Tryz.isAgg270
 z57:=Tryz.sizeOf270
 v57:=Tryz.zeroValue270
 t63:=Tryz.underlying286
 a63:=Tryz.isAgg286
 z63:=Tryz.sizeOf286
 v63:=Tryz.zeroValue286
 t64:=Tryz.underlying219
 a64:=Tryz.isAgg219
 z64:=Tryz.sizeOf219
 v64:=Tryz.zeroValue219 }
end Go.Proofs
namespace Go.Proofs
open Go.RowKit Go.Maps Go.Sort Go.Shelf
theorem Tryz.sorts136(m:Nat):AnyZ.SortsIn Tryz.prog Tryz.sorted136_ren Fence.wide m:=
 ⟨fun blk off cap ss W hH hblk hsz=>callsIn_wide.2 (AnyM.slices_Sort_string Tryz.sort171 blk off cap ss W hH hblk hsz),
  fun p cap W=>callsIn_wide.2 (AnyM.slices_Sort_string_none Tryz.sort171 p cap W)⟩
theorem Tryz.maps_Keys_137(mb:Option Nat)(W:World):CallsIn Fence.wide 5 Tryz.prog 137 #[.map mb] W fun e w'=>e=.returned (.func (.func 172) #[] #[.pointer (some ⟨W.heap.size,0,none⟩)])∧w'=W.alloc (.cells #[.map mb] 89):=
 AnyZ.keys_in Tryz.keys137 Fence.wide 5 trivial rfl mb W
set_option maxHeartbeats 1000000 in
theorem Tryz.slices_Sorted_keys_136_137{H:Type}(b nn:Nat)(D0:DataW H)(R:Value→Option (DataW H×List MemPlace))(w:World)(hown:w.ownsMap Tryz.prog 9 R b nn D0)(hmax:Maps.size D0≤maxLen)(hbytes:Maps.size D0 * 16≤140737488355328):
  CallsIn Fence.wide 5 Tryz.prog 136 #[.func (.func 172) #[] #[.pointer (some ⟨w.heap.size,0,none⟩)]] (w.alloc (.cells #[.map (some b)] 89)) fun e w'=>∃(v:Value) (ss:List (List UInt8)),e=.returned v∧ss.Perm (strKeys D0)∧
   w'.ownsRow (w.alloc (.cells #[.map (some b)] 89)).heap.size 9 1 v ss.length ((ss.mergeSort (fun x y=>decide (x≤y))).map encStr)∧(v=.slice none 0 0↔ss=[])∧Below (w.alloc (.cells #[.map (some b)] 89)).heap.size (w.alloc (.cells #[.map (some b)] 89)) w':=by
 have hbl:=hown.lt;have hseq:SeqGives Fence.wide 2 Tryz.prog 172 #[.pointer (some ⟨w.heap.size,0,none⟩)] encStr (fun ss=>ss.Perm (strKeys D0)) (Maps.size D0) (w.alloc (.cells #[.map (some b)] 89)):=
  AnyZ.keys_gives (ρ:=Tryz.keys137_ren) { Tryz.keys137 with } Fence.wide _ trivial rfl (by omega) w.heap.size b nn D0 _ (by simp) (by simp) (by
   obtain ⟨es,clock,hb,Ft,hs,hD⟩:=hown;exact ⟨es,clock,(Below.heap_alloc _ _ b hbl).trans hb,Ft,hs,hD⟩)
 exact AnyZ.sorted_in Tryz.sorted136 Fence.wide 5 trivial trivial trivial trivial rfl (by omega) (Tryz.sorts136 _) (enters_of Tryz.func171 (by kernel_rfl) rfl) 172 #[.pointer (some ⟨w.heap.size,0,none⟩)] trivial (enters_of Tryz.func172 (by kernel_rfl) rfl) _ _ hmax hbytes _ hseq
set_option maxHeartbeats 1000000 in
theorem Tryz.sorted86{H:Type}(b nn:Nat)(D0:DataW H)(R:Value→Option (DataW H×List MemPlace))(w:World)(hown:w.ownsMap Tryz.prog 9 R b nn D0)(hmax:Maps.size D0≤maxLen)(hbytes:Maps.size D0 * 16≤140737488355328):
  Calls Tryz.prog 86 #[.map (some b)] w fun e w'=>∃(v:Value) (ss:List (List UInt8)),e=.returned v∧ss.Perm (strKeys D0)∧
   w'.ownsRow w.heap.size 9 1 v ss.length ((ss.mergeSort (fun x y=>decide (x≤y))).map encStr)∧(v=.slice none 0 0↔ss=[])∧Below w.heap.size w w':=by
 refine (callsIn_wide (n:=6)).1 ?_;have hfK:Fence.wide.fn 137:=trivial;have hfS:Fence.wide.fn 136:=trivial;refine callsIn_of_wp Tryz.func86 rfl trivial ?_ rfl;simp only[Tryz.ntmps86,List.size_toArray,List.length_cons,List.length_nil,Nat.reduceAdd,Nat.reduceSub,Array.replicate_succ,Array.replicate_zero,List.push_toArray,List.append_toArray,List.nil_append,List.cons_append];gi_wp2_with (first
  | (gi_at_call 137;refine (Tryz.maps_Keys_137 _ _).mono ?_;rintro e w' ⟨rfl,rfl⟩)
  | (gi_at_call 136;refine (Tryz.slices_Sorted_keys_136_137 b nn D0 R w hown hmax hbytes).mono ?_;rintro e w' ⟨v,ss,rfl,hS,hrow,hnil,hb⟩))
 go_ret;exact ⟨v,ss,rfl,hS,ownsRow_base_a hrow (by simp),hnil,((Below.refl _ w).alloc (Nat.le_refl _) _).trans (hb.mono (by simp))⟩
end Go.Proofs
namespace Go.Proofs.YtbifpocccfkhhaaGreatDoor
open Go Go.Proofs.Tryz
theorem SR.layAt{E:En}{S:St}{w w':World}(h:SR E S w)(hb:∀b,b<w.heap.size→w'.heap[b]?=w.heap[b]?)(hs:w.heap.size≤w'.heap.size)(ho:(w'.output,w'.os)=(w.output,w.os)){g:Nat}{cells:Array Value}{t:TypeId}(hg:w.heap.size≤g)(hc:w'.heap[g]?=some (.cells cells t (0,0))):
  SR (E.lay g cells) S w'∧Ext S.length E S w (E.lay g cells) S w':=by
 have hno:∀o,E.I g o=none:=fun o=>by
  cases hc:E.I g o with
  | none=>rfl
  | some c=>exact absurd (cell?_lt (h.I _ _ _ hc)) (by omega)
 have hle:E.le (E.lay g cells):=⟨fun b o c h1=>by
  by_cases h2:b=g
  ·subst h2;rw[hno] at h1;cases h1
  ·simp[En.lay,h2];exact h1,fun _ _ _ h=>h⟩
 refine ⟨⟨h.gl.old hle.1 (fun b _ _ _ hc _=>hb b (Zq hc)),?_,?_,h.dom,?_,?_,h.inj⟩,⟨hs,hle.1,fun _ _ _ _ hx=>hx,fun _ _ hx=>hx,fun b hb=>.inl hb,?_,fun b h1 _=>hb b h1,ho⟩⟩
 ·intro b o c h1;by_cases hb':b=g
  ·subst hb';simp only[En.lay,if_true] at h1;unfold World.cell?;rw[hc];simpa using h1
  ·simp only[En.lay,hb',if_false] at h1;have:=h.I b o c h1;rw[cell?_heap (hb _ (cell?_lt this))];exact this
 ·intro l o hl;by_cases hd:o=.dead
  ·subst hd;trivial
  exact (h.obs l o hl).mono hle (fun _ _ hx=>hx) (fun st' x hx=>hb _ (h.lt _ ⟨l,st',x,⟨o,hl,hd⟩,hx,rfl⟩))
 ·intro b o h1;have h2:=h.lt b h1;simp only[En.lay];rw[if_neg (by omega)];exact h.apart b o h1
 ·intro b h1;have:=h.lt b h1;omega
 ·intro b o c h1;by_cases hb':b=g
  ·exact .inr (.inr (by omega))
  ·simp only[En.lay,hb',if_false] at h1;exact .inl h1
def ZM(ks:List Bz):List Bz:=((ks.map fun k=>k.data.toList).mergeSort fun x y=>decide (x≤y)).map fun l=>⟨l.toArray⟩
theorem zN(ks:List Bz):(ZM ks).length=ks.length:=by unfold ZM;simp
noncomputable abbrev qoa:Value→Option (DataW Unit×List MemPlace):=plainElem prog 4
theorem qg0(m:Nat)(ks:List Bz)(bs:List Nat)(ck:Nat)(S:St)(hm:S[m]?=some (.map (ks.map kv) bs ck))(hst:Zc bs ck)(nd:ks.Nodup)(hl:ks.length≤1000000)(hz:∀k,k∈ks→k.size≤maxLen):
  qv prog 86 [.map m] S (fun r U=>r=.sl false ((ZM ks).map .str)∧U=S):=by
 refine qv.of_calls func86 ok86 fun E w us hs hv=>?_
 obtain ⟨hlen,hv⟩:=hv
 obtain ⟨x,hu,hx⟩:∃x,us=#[.map (some x.b)]∧E.ρ m 0=some x:=by
  match us,hlen with
  | ⟨[u]⟩,_=>
   have:=hv 0 _ u rfl rfl
   cases this with
   | map h=>exact ⟨_,rfl,h⟩
 subst hu;obtain ⟨x',es,h1,h2,h3,h4,h5⟩:=hs.obs m _ hm;rw[hx] at h1;cases h1;have hes:es.size=ks.length:=by rw[←h3,qqF]
 have ent:∀(i:Nat) (e:MapEntry),es[i]?=some e→∃k,ks[i]?=some k∧e.key=.string k∧e.val=.bool true:=fun i e he=>by
  have hi:i<ks.length:=by rw[←hes];exact (qqQ.1 he).1
  obtain ⟨g1,g2⟩:=h5 i (.str ks[i]) (.bool true) e (by simp[kv,hi]) he;refine ⟨ks[i],qqD hi,?_,?_⟩
  ·generalize e.key=kk at g1;cases g1;rfl
  ·generalize e.val=kk at g2;cases g2;rfl
 have hkeys:es.toList.map (·.key)=ks.map Value.string:=by
  apply qrH;intro i;rw[qqM,qqM,qrI]
  cases he:es[i]? with
  | none=>
   have:ks.length≤i:=by rw[←hes];exact Array.getElem?_eq_none_iff.1 he
   rw[qsa.2 this];rfl
  | some e=>
   obtain ⟨k,hk,hk',_⟩:=ent i e he;rw[hk];simp[hk']
 have hrd:∀(i:Nat) (e:MapEntry),es[i]?=some e→∃k,ks[i]?=some k∧WideElems.rd prog 9 qoa e=some (.string k.data.toList,.lit (.bool true)):=fun i e he=>by
  obtain ⟨k,hk,h6,h7⟩:=ent i e he;refine ⟨k,hk,?_⟩;obtain ⟨key,val,born⟩:=e;simp only at h6 h7;subst h6 h7;exact WideElems.rd_mk (yv:=(.lit (.bool true),[])) (WideMaps.keyOf_string_mk Tryz.underlying9 (hz k (qqG hk))) (plainElem_bool Tryz.underlying4 true)
 have hrg:es.toList.map (WideElems.rg prog 9 qoa)=ks.map fun k=>(.string k.data.toList,.lit (.bool true)):=by
  apply qrH;intro i;rw[qqM,qqM,qrI]
  cases he:es[i]? with
  | none=>
   have:ks.length≤i:=by rw[←hes];exact Array.getElem?_eq_none_iff.1 he
   rw[qsa.2 this];rfl
  | some e=>
   obtain ⟨k,hk,hk'⟩:=hrd i e he;rw[hk];simp[WideElems.rg_of hk']
 obtain ⟨D0,hD⟩:∃D0:DataW Unit,D0=.map ((es.toList.map (WideElems.rg prog 9 qoa)).foldr DataW.insert []):=⟨_,rfl⟩;have hml:(1000000:Nat)≤maxLen:=by decide
 have hown:w.ownsMap prog 9 qoa x.b es.size D0:=⟨es,ck,h2,⟨by omega,⟨fun e he=>?_,?_,?_⟩,fun e he=>?_⟩,qqC _,hD⟩;rotate_left
 ·exact hst.1 _ (by rw[h4];exact qrm he)
 ·rw[←h4];exact hst.2
 ·rw[hkeys];exact List.Pairwise.map _ (fun a b hab=>by intro hh;exact hab (by injection hh)) nd
 ·obtain ⟨i,hi⟩:=qrS.1 he;rw[qrI] at hi;obtain ⟨k,_,hk⟩:=hrd i e hi;exact ⟨_,hk⟩
 have hsz:Maps.size D0=ks.length:=by
  rw[hD,Maps.size_eq,(WideShapes.sorted_perm _).length_eq,hrg,qqF]
 have hsk:(strKeys D0).Perm (ks.map fun k=>k.data.toList):=by
  rw[hD];show (List.map _ _).Perm _;refine ((WideShapes.sorted_perm _).map _).trans ?_;rw[hrg,qrG];exact List.Perm.refl _
 refine Calls.mono (Tryz.sorted86 x.b es.size D0 qoa w hown (by omega) (by omega)) ?_;rintro e w' ⟨v,ss,rfl,hp,hrow,hnil,hb⟩;have hso:ss.mergeSort (fun x y=>decide (x≤y))=(ks.map fun k=>k.data.toList).mergeSort (fun x y=>decide (x≤y)):=mergeSort_of_perm (hp.trans hsk)
 have hmap:(ZM ks).map Value.string=(ss.mergeSort (fun x y=>decide (x≤y))).map encStr:=by
  rw[hso];unfold ZM;rw[qrG];rfl
 have hn:ss.length=ks.length:=by rw[hp.length_eq,hsk.length_eq,qqF]
 rw[←hmap] at hrow;obtain ⟨_,⟨rfl,h0⟩|⟨g,cap,cur,rfl,hg,hc,hcap,_,hcs,htake⟩⟩:=hrow
 ·obtain ⟨g1,g2⟩:=hs.grown hb.block hb.size (by rw[hb.output,hb.os]);have:ZM ks=[]:=qsg.1 (by rw[zN];omega);exact ⟨_,_,E,S,rfl,⟨rfl,rfl⟩,by rw[this];exact .slnil _,g1,g2 _,qqC _⟩
 ·obtain ⟨g1,g2⟩:=hs.layAt hb.block hb.size (by rw[hb.output,hb.os]) hg hc;refine ⟨_,_,E.lay g cur,S,rfl,⟨rfl,rfl⟩,?_,g1,g2,qqC _⟩;have hlen':ss.length=((ZM ks).map V.str).length:=by rw[qqF,zN,hn]
  have hget:∀(i:Nat) (y:Bz),(ZM ks)[i]?=some y→cur[i]?=some (.string y):=fun i y hy=>by
   have h6:=congrArg (·[i]?) htake;simp only[qqM,hy,qqS,List.getElem?_take] at h6;split at h6
   ·rw[qrI] at h6;exact h6
   ·cases h6
  rw[hlen'];refine .sl (sz:=1) (by rw[←hlen'];exact hcap) (by simp) (fun v hv=>?_) (fun i j hi hj=>?_) (fun i v j c' c h1 h2 h3=>?_)
  ·obtain ⟨k,_,rfl⟩:=qqT.1 hv;rfl
  ·have:j=0:=by omega
   subst this;rw[qqF] at hi;simp[En.lay,hget i _ (qqD hi)]
  ·rw[qqM] at h1;obtain ⟨y,hy,rfl⟩:=qqI.1 h1
   have hj:j=0:=by
    have:=(qqx.1 h2).1;simp[V.cells] at this;exact this
   subst hj;simp[V.cells] at h2;subst h2;simp[En.lay,hget i y hy] at h3;subst h3;exact .str y
theorem qfD(h:coP.H)(sc:Scs)(t:Bz):(yn (coP.clH h t sc)).length≤(yn h).length+1:=by
 show (Prod.fst (coU h t sc)).length≤_;unfold coU yn;cases sc.at t <;> simp
mutual
theorem Ex.frn(sc:Scs)(tg:Bool):∀(x:Ex) (h:coP.H),(yn (Ex.hs coP sc tg h x)).length≤(yn h).length+(Pa.ex x).size
 | .mk k o n m e t a,h=>by
  have ha:=Ex.frnl sc false a h;have hz:=Pa.size_eq (.ex (.mk k o n m e t a));simp only[Pa.own,Pa.kids,Ex.args] at hz;have hc:=qfD (Ex.hsl coP sc false h a) sc t;rw[Ex.hs,qju];split <;> omega
theorem Ex.frnl(sc:Scs)(tg:Bool):∀(l:List Ex) (h:coP.H),(yn (Ex.hsl coP sc tg h l)).length≤(yn h).length+qA (l.map Pa.ex)
 | [],h=>by simp[Ex.hsl]
 | x::l,h=>by
  have h1:=Ex.frn sc tg x h;have h2:=Ex.frnl sc tg l (Ex.hs coP sc tg h x);rw[Ex.hsl,qqH,sizes_cons];omega
end
theorem El.frnl(sc:Scs):∀(l:List El) (h:coP.H),(yn (El.hsl coP sc h l)).length≤(yn h).length+qA (l.map Pa.el)
 | [],h=>by simp[El.hsl]
 | x::l,h=>by
  have h1:=Ex.frnl sc false x.exps h;have h2:=El.frnl sc l (Ex.hsl coP sc false h x.exps);have hz:=Pa.size_eq (.el x);simp only[Pa.kids] at hz;show (yn (El.hsl coP sc (Ex.hsl coP sc false h x.exps) l)).length≤_;rw[qqH,sizes_cons];omega
mutual
theorem Sm.frn:∀(s:Sm) (sc:Scs) (n:Nat) (h:coP.H),(yn (Sm.hs coP sc n h s)).length≤(yn h).length+(Pa.st s).size
 | .mk l k t g e el d b,sc,n,h=>by
  have hz:=Sm.size_parts' (.mk l k t g e el d b);simp only[Sm.labels,Sm.targets,Sm.exps,Sm.elems,Sm.decls,Sm.body] at hz;have e1:=Ex.frnl sc true g h;rw[Sm.hs];split
  ·have e2:=De.frnl d (qd (qf d b) n::sc) sc (n+(qd (qf d b) n).length) (enters coP (Ex.hsl coP sc true h g) (qd (qf d b) n));have e3:=Sm.frnl b (qd (qf d b) n::sc) (n+(qd (qf d b) n).length+De.nbl d) (De.hsl coP (qd (qf d b) n::sc) sc (n+(qd (qf d b) n).length) (enters coP (Ex.hsl coP sc true h g) (qd (qf d b) n)) d);rw[zz] at e2;omega
  ·split
   ·have e3:=Sm.frnl b (qd (ql b) n::sc) (n+(qd (ql b) n).length) (enters coP (Ex.hsl coP sc true h g) (qd (ql b) n));rw[zz] at e3;omega
   ·have e2:=Ex.frnl sc false e (Ex.hsl coP sc true h g);have e3:=El.frnl sc el (Ex.hsl coP sc false (Ex.hsl coP sc true h g) e);have e4:=Sm.frn1 b sc n (El.hsl coP sc (Ex.hsl coP sc false (Ex.hsl coP sc true h g) e) el);have hc:=qfD (Sm.hs1 coP sc n (El.hsl coP sc (Ex.hsl coP sc false (Ex.hsl coP sc true h g) e) el) b) sc t;rw[qjj];split <;> omega
theorem De.frn:∀(s:De) (own sc:Scs) (n:Nat) (h:coP.H),(yn (De.hs coP own sc n h s)).length≤(yn h).length+(Pa.de s).size
 | .mk k o t ns e fo b,own,sc,n,h=>by
  have hz:=De.size_parts' (.mk k o t ns e fo b);simp only[De.names,De.formals,De.exps,De.body] at hz;rw[De.hs];split
  ·have e1:=Ex.frnl own false e h;have e2:=Sm.frn1 b (qd (fo.map Fo.name) n::own) (n+(qd (fo.map Fo.name) n).length) (enters coP (Ex.hsl coP own false h e) (qd (fo.map Fo.name) n));rw[zz] at e2;omega
  ·have e1:=Ex.frnl (if k=2 then sc else own) false e h;omega
theorem De.frnl:∀(l:List De) (own sc:Scs) (n:Nat) (h:coP.H),(yn (De.hsl coP own sc n h l)).length≤(yn h).length+qA (l.map Pa.de)
 | [],_,_,_,h=>by simp[De.hsl]
 | x::l,own,sc,n,h=>by
  have h1:=De.frn x own sc n h;have h2:=De.frnl l own sc (n+De.nb x) (De.hs coP own sc n h x);rw[De.hsl,qqH,sizes_cons];omega
theorem Sm.frnl:∀(l:List Sm) (sc:Scs) (n:Nat) (h:coP.H),(yn (Sm.hsl coP sc n h l)).length≤(yn h).length+qA (l.map Pa.st)
 | [],_,_,h=>by simp[Sm.hsl]
 | x::l,sc,n,h=>by
  have h1:=Sm.frn x sc n h;have h2:=Sm.frnl l sc (n+Sm.nb x) (Sm.hs coP sc n h x);rw[Sm.hsl,qqH,sizes_cons];omega
theorem Sm.frn1:∀(l:List Sm) (sc:Scs) (n:Nat) (h:coP.H),(yn (Sm.hs1 coP sc n h l)).length≤(yn h).length+qA (l.map Pa.st)
 | [],_,_,h=>by simp[Sm.hs1]
 | x::l,sc,n,h=>by
  have h1:=Sm.frn x (qd x.labels n::sc) (n+(qd x.labels n).length) (enters coP h (qd x.labels n));have h2:=Sm.frn1 l sc (n+(qd x.labels n).length+Sm.nb x) (Sm.hs coP (qd x.labels n::sc) (n+(qd x.labels n).length) (enters coP h (qd x.labels n)) x);rw[zz] at h1;rw[Sm.hs1,qqH,sizes_cons];omega
end
theorem Sm.frees_len(s:Sm):(yn (s.wholeH coP coZ)).length≤(Pa.st s).size:=by
 have:=Sm.frn s [qd s.labels 0] (qd s.labels 0).length (enters coP coZ (qd s.labels 0));rw[zz] at this;have h0:(yn coZ).length=0:=rfl;show (yn (Sm.hs coP [qd s.labels 0] (qd s.labels 0).length (enters coP coZ (qd s.labels 0)) s)).length≤_;omega
theorem Qi:∀{l ks:List Bz},ks.Nodup→(l.foldl yC ks).Nodup
 | [],ks,h=>h
 | s::l,ks,h=>by
  refine Qi (l:=l) ?_;unfold yC;split
  ·exact h
  ·rename_i hs;exact List.nodup_append.2 ⟨h,by simp,fun a ha b hb=>by simp at hb;subst hb;rintro rfl;exact hs (zL.2 ha)⟩
theorem z7:∀{l ks:List Bz},(l.foldl yC ks).length≤ks.length+l.length
 | [],ks=>by simp
 | s::l,ks=>by
  have:=z7 (l:=l) (ks:=yC ks s);have h2:(yC ks s).length≤ks.length+1:=by unfold yC;split <;> simp
  rw[qsr,qqY];omega
def Sm.frees(s:Sm):List Bz:=ZM ((yn (s.wholeH coP coZ)).foldl yC [])
theorem qnN(s:Sm)(hs:s.ok)(hsz:(Pa.st s).size≤4000)(hn:Sm.nb1 [s]≤100000)(S:St):
  qv prog 29 [s.v] S (fun r U=>r=.tup [.sl (decide ((Pa.st s).err qb≠0)) ((if (Pa.st s).err qb=0 then s.frees else []).map .str),.int .i64 ((Pa.st s).err qb)]∧Kp (fun _=>False) S U):=by
 refine qv.ib func29 ok29 ?_;obtain ⟨S1,hS1⟩:∃S1:St,S1=S++[.arr [s.v] 8 1]:=⟨_,rfl⟩;have b0:S1[S.length]?=some (.arr [s.v] 8 1):=by rw[hS1];simp
 have kS:Kp (fun _=>False) S S1:=by rw[hS1];exact (Kp.refl _ _).push _
 simp[c29,qE];rw[←hS1];simp[ldS,b0];refine qe (jY s hs S1) ?_;by_cases he:(Pa.st s).err qb=0
 ·simp[he,ldS,b0];refine qh (qeT s hs hsz hn S1) ?_;rintro r U ⟨m,c4,c5,c6,v,ps,F,D,rfl,k,kU,_⟩;obtain ⟨bs,ck,hst,hm⟩:=k.fm;have hv:=(Pa.valid_iff.1 (qk he).2);simp;refine qh (qg0 m _ bs ck U hm hst (Qi qsz) ?_ ?_) ?_
  ·have h1:=z7 (l:=yn (s.wholeH coP coZ)) (ks:=[]);have h2:=s.frees_len;simp only[qri] at h1;exact qra h1 (by omega)
  ·intro x hx;rw[yd] at hx;have hx:x∈yn (s.wholeH coP coZ):=hx.elim (fun h=>by simp at h) id;rw[Sm.free_occ (f:=zm) (nm:=qb) (fun k=>Qf k) s (qk he).2] at hx;have:=Q1 (qrv.1 hx).2;exact qra this (by decide)
  ·rintro r U2 ⟨rfl,rfl⟩;simp;exact qg rfl ⟨rfl,kS.trans kU⟩
 ·simp[he];exact qg rfl ⟨rfl,kS⟩
theorem Co.at{m c4 c5 c6:Nat}{h:List Bz×List Bz}{v:V}{ps:List Nat}{F D:Np}{U:St}(k:Co m c4 c5 c6 h v ps F D U){i:Nat}(hi:i<h.2.length):
  ∃p l st,iaS U 1 v (i:Int)=some (.ptr l i 0 st)∧ldS U (.ptr l i 0 st) none=some (.ptr p 0 0 1)∧U[p]?=some (plc h.2[i] i h.2[i]):=by
 have hip:i<ps.length:=by rw[k.pn];exact hi
 obtain ⟨_,hp⟩:=k.pl i ps[i] h.2[i] (qqD hip) (qqD hi);rcases k.gr with ⟨h0,_⟩|⟨a,wr,rfl,ha,hw,_,_⟩
 ·rw[h0] at hip;simp at hip
 ·refine ⟨ps[i],a,ps.length,?_,?_,hp⟩
  ·simp only[iaS,ha];rw[if_pos ⟨hw,trivial,by omega,by omega⟩];simp
  ·simp only[ldS,ha];rw[if_pos ⟨hw,hip⟩];simp[hip]
theorem Co.lenS{m c4 c5 c6:Nat}{h:List Bz×List Bz}{v:V}{ps:List Nat}{F D:Np}{U:St}(k:Co m c4 c5 c6 h v ps F D U):lenS v=some (.int .i64 h.2.length):=by
 have:=k.pn;rcases k.gr with ⟨rfl,rfl⟩|⟨a,wr,rfl,_⟩
 ·rw[←this];rfl
 ·rw[←this];rfl
theorem qob{m c4 c5 c6:Nat}{h:List Bz×List Bz}{v:V}{ps:List Nat}{F D:Np}{U:St}(k:Co m c4 c5 c6 h v ps F D U)(hn:h.2.length≤100000):
  qv prog 75 [v] U (fun r U'=>r=.map U.length∧(∃bs ck,Zc bs ck∧U'[U.length]?=some (.map ((h.2.foldl yC []).map kv) bs ck))∧Kp (fun _=>False) U U'):=by
 refine qv.ib func75 ok75 ?_;have hlv:=k.lenS;have hmk:∀(e:Env) (S:St),evX e S .mkm=some (V.map S.length,S++[Ob.map [] [] 0]):=fun _ _=>rfl
 simp[c75,hmk,↓qat,hlv];refine qN (fun e U'=>e.get 3=some (.map U.length)∧(∃bs ck,Zc bs ck∧U'[U.length]?=some (.map ((h.2.foldl yC []).map kv) bs ck))∧Kp (fun _=>False) U U') ?_ ?_
 ·refine qx (fun j e U'=>∃i:Nat,j=h.2.length - i∧i≤h.2.length∧(∃bs ck,Zc bs ck∧U'=U++[.map (((h.2.take i).foldl yC []).map kv) bs ck])∧
   e=[(9,.int .i64 i),(8,.int .i64 h.2.length),(7,v),(3,.map U.length)]) h.2.length _ ?_ ⟨0,by simp,by omega,⟨[],0,Zc.nil,rfl⟩,rfl⟩ ?_
  ·exact Env.so (by simp)
  rintro j e U' ⟨i,rfl,hi,⟨bs,ck,hst,rfl⟩,rfl⟩;by_cases hh:i<h.2.length
  ·have k':=k.push [.map (((h.2.take i).foldl yC []).map kv) bs ck];obtain ⟨p,l,st,h1,h2,h3⟩:=k'.at hh;have hm:(U++[Ob.map (((h.2.take i).foldl yC []).map kv) bs ck])[U.length]?=some (.map (((h.2.take i).foldl yC []).map kv) bs ck):=by simp
   unfold plc at h3
   have h4:ldS (U++[Ob.map (((h.2.take i).foldl yC []).map kv) bs ck]) (.ptr p 0 1 1) none=some (.str h.2[i]):=by
    simp only[ldS,h3];rfl
   have hft:fits 1 [V.str h.2[i]]=true:=rfl;simp[hh,h1,h2,zW,h4,hft];refine qh (qcw true [h.2[i]] _ bs ck U.length _ (by simp) hm) ?_;rintro r U2 ⟨bs',ck',hst',rfl⟩;simp[zh (n:=(i:Int)+1)];refine ⟨_,?_,_,?_,i+1,rfl,by omega,⟨bs',ck',hst' hst,?_⟩,rfl⟩
   ·omega
   ·exact Env.so (by simp)
   ·rw[qqW,qqD hh,qrk,qrf];exact ⟨by rw[qsr,List.foldl_nil],rfl,rfl⟩
  ·have:i=h.2.length:=by omega
   subst this;rw[qrt];simp;exact ⟨hst,(Kp.refl _ _).push _⟩
 ·rintro e U' ⟨h3,h4,h5⟩;simp[h3];exact qg rfl ⟨rfl,h4,h5⟩
def ki(e:Bz×Int):V×V:=(.str e.1,.int .i64 e.2)
def qer:List (Bz×Int)→Bz→Int
 | [],_=>0
 | (k,v)::r,s=>if s=k then v else qer r s
def qiy:List (Bz×Int)→Bz→Int→List (Bz×Int)
 | [],s,n=>[(s,n)]
 | (k,v)::r,s,n=>if s=k then (k,n)::r else (k,v)::qiy r s n
theorem qdJ(s:Bz)(n:Int)(x:Bz):∀ms,qer (qiy ms s n) x=if x=s then n else qer ms x
 | []=>by simp[qiy,qer]
 | (k,v)::r=>by
  unfold qiy;by_cases h:s=k
  ·subst h;rw[if_pos rfl,qer,qer];split <;> rfl
  ·rw[if_neg h,qer,qer,qdJ s n x r];by_cases hx:x=k
   ·subst hx;rw[if_pos rfl,if_pos rfl,if_neg (Ne.symm h)]
   ·rw[if_neg hx,if_neg hx]
theorem YO(s:Bz)(n:Int):∀(ms:List (Bz×Int)) (i:Nat),(zC .str (.str s) (ms.map ki) i=some none∧qer ms s=0∧qiy ms s n=ms++[(s,n)])∨∃(j:Nat) (v:Int),zC .str (.str s) (ms.map ki) i=some (some (i+j,.int .i64 v))∧qer ms s=v∧qiy ms s n=ms.set j (s,n)∧j<ms.length
 | [],i=>.inl ⟨rfl,rfl,rfl⟩
 | (k,v)::r,i=>by
  simp only[qqH,ki,zC,YX];by_cases h:s=k
  ·subst h;refine .inr ⟨0,v,?_,?_,?_,by simp⟩
   ·simp
   ·rw[qer,if_pos rfl]
   ·rw[qiy,if_pos rfl];rfl
  ·have hne:(s.data.toList==k.data.toList)=false:=by
    rw[beq_eq_false_iff_ne];intro hh;exact h (qsn (Array.ext' hh))
   rw[hne];simp only;rw[qer,if_neg h,qiy,if_neg h];rcases YO s n r (i+1) with ⟨h1,h2,h3⟩|⟨j,w,h1,h2,h3,h4⟩
   ·exact .inl ⟨h1,h2,by rw[h3];rfl⟩
   ·refine .inr ⟨j+1,w,?_,h2,by rw[h3];rfl,by simpa using h4⟩;rw[show i+(j+1)=i+1+j by omega];exact h1
def Cm(c:Bz→Int)(l:Nat)(S:St):Prop:=∃ms bs ck,S[l]?=some (.map (ms.map ki) bs ck)∧∀x,qer ms x=c x
theorem Cm.get{c:Bz→Int}{l:Nat}{S:St}(h:Cm c l S)(s:Bz):qbT S .str (.int .i64 0) false (.map l) (.str s)=some (.int .i64 (c s)):=by
 obtain ⟨ms,bs,ck,h,hc⟩:=h;unfold qbT;rw[if_pos (by rfl)];simp only[qbB,h];rcases YO s 0 ms 0 with ⟨h1,h2,_⟩|⟨j,v,h1,h2,_⟩
 ·rw[h1,←hc,h2];rfl
 ·rw[h1,←hc,h2];rfl
theorem Cm.put{c:Bz→Int}{l:Nat}{S:St}(h:Cm c l S)(s:Bz)(n:Int):∃es bs ck,qaY S .str (.map l) (.str s) (.int .i64 n)=some (S.set l (.map es bs ck))∧∀S':St,S'[l]?=some (.map es bs ck)→Cm (fun x=>if x=s then n else c x) l S':=by
 obtain ⟨ms,bs,ck,h,hc⟩:=h;have fin:∀(bs':List Nat) (ck':Nat) (S':St),S'[l]?=some (.map ((qiy ms s n).map ki) bs' ck')→Cm (fun x=>if x=s then n else c x) l S':=fun bs' ck' S' hS=>⟨_,bs',ck',hS,fun x=>by rw[qdJ,hc]⟩
 unfold qaY;rw[if_pos (by rfl)];simp only[h];rcases YO s n ms 0 with ⟨h1,h2,h3⟩|⟨j,v,h1,h2,h3,h4⟩
 ·rw[h1];refine ⟨_,bs++[ck],ck+1,rfl,fun S' hS=>fin (bs++[ck]) (ck+1) S' ?_⟩;rw[h3,qqX];exact hS
 ·rw[h1];refine ⟨_,bs,ck,rfl,fun S' hS=>fin bs ck S' ?_⟩;rw[h3,List.map_set];simpa[ki] using hS
theorem Cm.keep{c:Bz→Int}{l:Nat}{S S':St}(h:Cm c l S)(hk:∀o,S[l]?=some o→S'[l]?=some o):Cm c l S':=by
 obtain ⟨ms,bs,ck,h,hc⟩:=h;exact ⟨ms,bs,ck,hk _ h,hc⟩
open Classical in
def qkk(P:Bz→Prop)(x:Bz):Bz:=if h:∃t,P t then Classical.choose h else x
def frs(x:Bz)(all:List Bz):Bz:=qkk (fun t=>zd x all t) x
theorem qdF{x:Bz}{all:List Bz}{t:Bz}(h:zd x all t):frs x all=t:=by
 have he:∃t,zd x all t:=⟨t,h⟩;unfold frs qkk;rw[dif_pos he];exact (Classical.choose_spec he).unique h
theorem qiN{x:Bz}{a b:List Bz}(h:∀y,y∈a↔y∈b):frs x a=frs x b:=by
 have:(fun t=>zd x a t)=fun t=>zd x b t:=by
  funext t;exact propext ⟨zd.same h,zd.same fun y=>(h y).symm⟩
 unfold frs;rw[this]
theorem zd.size_le{s:Bz}{taken:List Bz}{t:Bz}(h:zd s taken t)(hs:s.size≤16)(ht:taken.length≤899):t.size≤16:=by
 by_cases hm:s∈taken
 ·obtain ⟨n,h1,h2,h3,h4⟩:=QZ s taken ht;rw[h.unique (.inr ⟨hm,n,h1,rfl,h3,h4⟩)];have hd:=qjF n (by omega);unfold YC;simp only[ByteArray.size,List.size_toArray,qqO,qrT];omega
 ·rw[h.unique (.inl ⟨hm,rfl⟩)];exact hs
def Qh:List Bz→Bz→Int
 | [],_=>0
 | y::l,x=>(if x=y then 1 else 0)+Qh l x
theorem Yg(x:Bz)(m:List Bz):∀l,Qh (l++m) x=Qh l x+Qh m x
 | []=>by simp[Qh]
 | y::l=>by rw[qq3,Qh,Qh,Yg x m l];omega
theorem J4(x:Bz):∀l,0≤Qh l x∧Qh l x≤l.length
 | []=>by simp[Qh]
 | y::l=>by
  have:=J4 x l;rw[Qh,qqY];split <;> omega
theorem qdA(x:Bz):∀l,0<Qh l x↔x∈l
 | []=>by simp[Qh]
 | y::l=>by
  have h1:=qdA x l;have h2:=J4 x l;rw[Qh,qq0];by_cases h:x=y
  ·rw[if_pos h];exact ⟨fun _=>.inl h,fun _=>by omega⟩
  ·rw[if_neg h];exact ⟨fun hh=>.inr (h1.1 (by omega)),fun hh=>by have:=h1.2 (hh.resolve_left h);omega⟩
def apN(tk fr done:List Bz)(x:Bz)(rest:List Bz):Bz:=if ZY x tk=true then frs x (fr++(done++x::rest)++tk) else x
def apL(tk fr:List Bz):List Bz→List Bz→List Bz
 | done,[]=>done
 | done,x::rest=>apL tk fr (done++[apN tk fr done x rest]) rest
theorem YZ(tk fr:List Bz):∀(rest done:List Bz),(apL tk fr done rest).length=done.length+rest.length
 | [],done=>by simp[apL]
 | x::rest,done=>by rw[apL,YZ tk fr rest];simp;omega
def apD(tk fr:List Bz):List Bz→List Bz→Nat→List Bz
 | done,_,0=>done
 | done,[],_+1=>done
 | done,x::rest,i+1=>apD tk fr (done++[apN tk fr done x rest]) rest i
theorem qc0(tk fr:List Bz):∀(rest done:List Bz),apD tk fr done rest rest.length=apL tk fr done rest
 | [],done=>rfl
 | x::rest,done=>by rw[qqY,apD,apL,qc0 tk fr rest]
theorem kC(tk fr:List Bz):∀(rest done:List Bz) (i:Nat),i≤rest.length→(apD tk fr done rest i).length=done.length+i
 | _,done,0,_=>by simp[apD]
 | [],done,i+1,h=>by simp at h
 | x::rest,done,i+1,h=>by
  rw[apD,kC tk fr rest _ i (by simpa using h)];simp;omega
theorem qdu(tk fr:List Bz):∀(rest done:List Bz) (i:Nat) (h:i<rest.length),apD tk fr done rest (i+1)=apD tk fr done rest i++[apN tk fr (apD tk fr done rest i) rest[i] (rest.drop (i+1))]
 | [],_,_,h=>by simp at h
 | x::rest,done,0,h=>by simp[apD]
 | x::rest,done,i+1,h=>by
  rw[apD,qdu tk fr rest _ i (by simpa using h)];rfl
def lf(l:List Bz)(k:Nat):Bz:=(l[k]?).getD ⟨⟨[]⟩⟩
theorem qit{tk fr done rest:List Bz}{x:Bz}(hx:x.size≤16)(hl:(fr++(done++x::rest)++tk).length≤899):(apN tk fr done x rest).size≤16:=by
 unfold apN;split
 ·obtain ⟨t,ht⟩:=zd.exists x _ hl;rw[qdF ht];exact ht.size_le hx hl
 ·exact hx
theorem qab(tk fr:List Bz):∀(rest done:List Bz),(∀x,x∈done→x.size≤16)→(∀x,x∈rest→x.size≤16)→fr.length+done.length+rest.length+tk.length≤899→∀x,x∈apL tk fr done rest→x.size≤16
 | [],done,h,_,_=>by rw[apL];exact h
 | y::rest,done,h,g,hl=>by
  rw[apL];rw[qqY] at hl;refine qab tk fr rest _ (fun x hx=>?_) (fun x hx=>g x (qrz _ hx)) (by simp;omega);rcases qqE.1 hx with hx|hx
  ·exact h x hx
  ·simp at hx;subst hx;exact qit (g y (by simp)) (by simp;omega)
end Go.Proofs.YtbifpocccfkhhaaGreatDoor

namespace Go.Proofs.YtbifpocccfkhhaaGreatDoor
open Go Go.Proofs.Tryz
theorem qb5:∀(k:Nat) (l:List Bz),l.length≤k→∀x,x∈nms l→x∈l
 | _,[],_,x,h=>by simp[nms,qd,binds] at h
 | 0,_::_,h,_,_=>by simp at h
 | k+1,y::l',h,x,hx=>by
  obtain ⟨l,z,hl⟩:∃l z,y::l'=l++[z]:=⟨(y::l').dropLast,(y::l').getLast (by simp),(List.dropLast_concat_getLast _).symm⟩;rw[hl] at h hx ⊢;have hk:l.length≤k:=by simp at h;exact h
  rw[qcE] at hx;split at hx
  ·exact qqK _ (qb5 k l hk x hx)
  ·rcases qqE.1 hx with hx|hx
   ·exact qqK _ (qb5 k l hk x hx)
   ·exact qqN _ hx
theorem QK{l:List Bz}{x:Bz}(h:x∈nms l):x∈l:=qb5 _ l (qqC _) x h
theorem qbm{b:List Sm}(h:Sm.okL b){x:Bz}(hx:x∈ql b):x.size≤B50:=by
 obtain ⟨s,hs,hx⟩:=qrL.1 hx;exact ((Sm.ok_iff s).1 (Sm.okL_mem h s hs)).labels.2 x hx
mutual
theorem Sm.bn_ok:∀(s:Sm),s.ok→∀x,x∈s.bn→x.size≤B50
 | .mk l k t g e f d b,v,x,hx=>by
  have V:=(Sm.ok_iff _).1 v;have vd:=V.decls.2;have vb:=V.body.2;simp only[Sm.decls,Sm.body] at vd vb;rw[Sm.bn] at hx;split at hx
  ·rcases qqE.1 hx with hx|hx
   ·rcases qqE.1 hx with hx|hx
    ·rcases qqE.1 (QK hx) with hx|hx
     ·obtain ⟨y,hy,hx⟩:=qrL.1 hx;exact ((De.ok_iff y).1 (De.okL_mem vd y hy)).names.2 x hx
     ·exact qbm vb hx
    ·exact De.bnl_ok d vd x hx
   ·exact Sm.bnl_ok b vb x hx
  ·split at hx
   ·rcases qqE.1 hx with hx|hx
    ·exact qbm vb (QK hx)
    ·exact Sm.bnl_ok b vb x hx
   ·exact Sm.bn1_ok b vb x hx
theorem De.bn_ok:∀(s:De),s.ok→∀x,x∈s.bn→x.size≤B50
 | .mk k o t ns e fo b,v,x,hx=>by
  have V:=(De.ok_iff _).1 v;have vf:=V.formals.2;have vb:=V.body.2;simp only[De.formals,De.body] at vf vb;rw[De.bn] at hx;split at hx
  ·rcases qqE.1 hx with hx|hx
   ·obtain ⟨y,hy,rfl⟩:=qqT.1 (QK hx);exact vf y hy
   ·exact Sm.bn1_ok b vb x hx
  ·simp at hx
theorem De.bnl_ok:∀(l:List De),De.okL l→∀x,x∈De.bnl l→x.size≤B50
 | [],_,x,hx=>by simp[De.bnl] at hx
 | y::l,v,x,hx=>by
  rw[De.okL] at v;rw[De.bnl] at hx;rcases qqE.1 hx with hx|hx
  ·exact De.bn_ok y v.1 x hx
  ·exact De.bnl_ok l v.2 x hx
theorem Sm.bnl_ok:∀(l:List Sm),Sm.okL l→∀x,x∈Sm.bnl l→x.size≤B50
 | [],_,x,hx=>by simp[Sm.bnl] at hx
 | y::l,v,x,hx=>by
  rw[Sm.okL] at v;rw[Sm.bnl] at hx;rcases qqE.1 hx with hx|hx
  ·exact Sm.bn_ok y v.1 x hx
  ·exact Sm.bnl_ok l v.2 x hx
theorem Sm.bn1_ok:∀(l:List Sm),Sm.okL l→∀x,x∈Sm.bn1 l→x.size≤B50
 | [],_,x,hx=>by simp[Sm.bn1] at hx
 | y::l,v,x,hx=>by
  rw[Sm.okL] at v;rw[Sm.bn1] at hx;rcases qqE.1 hx with hx|hx
  ·rcases qqE.1 hx with hx|hx
   ·exact ((Sm.ok_iff y).1 v.1).labels.2 x (QK hx)
   ·exact Sm.bn_ok y v.1 x hx
  ·exact Sm.bn1_ok l v.2 x hx
end
def Sm.bounds(s:Sm):List Bz:=nms s.labels++s.bn
theorem Sm.bounds_ok(s:Sm)(v:s.ok):∀x,x∈s.bounds→x.size≤B50:=fun x hx=>(qqE.1 hx).elim (fun h=>((Sm.ok_iff s).1 v).labels.2 x (QK h)) (Sm.bn_ok s v x)
def qo1(h:coP.H):List Bz:=Prod.snd (α:=List Bz) (β:=List Bz) h
theorem qjE:HInv coP fun l h=>qo1 h=l where
 e x h:=by subst h;rfl
 n {l h} x sc tg hq:=by
  show Prod.snd (coU h x.text sc)=l;unfold coU;split <;> exact hq
 c {l h} x sc hq:=by
  show Prod.snd (coU h x sc)=l;unfold coU;split <;> exact hq
theorem Sm.whole_bounds(s:Sm):qo1 (s.wholeH coP coZ)=s.bounds:=by
 have h0:qo1 coZ=[]:=rfl;have h1:=qjE.enters h0 _ s.labels (qqC _);have h2:=qjE.sm [qd s.labels 0] s h1;rw[qrN,qz] at h2;exact h2
theorem Sm.bounds_len(s:Sm):s.bounds.length=Sm.nb1 [s]:=by
 unfold Sm.bounds;simp only[qqO,qz,Sm.bn_length,Sm.nb1,qsD]
def Sm.binds(s:Sm):List Bz:=ZM (s.bounds.foldl yC [])
theorem qjv(s:Sm)(hs:s.ok)(hsz:(Pa.st s).size≤4000)(hn:Sm.nb1 [s]≤100000)(S:St):
  qv prog 31 [s.v] S (fun r U=>r=.tup [.sl (decide ((Pa.st s).err qb≠0)) ((if (Pa.st s).err qb=0 then s.binds else []).map .str),.int .i64 ((Pa.st s).err qb)]∧Kp (fun _=>False) S U):=by
 refine qv.ib func31 ok31 ?_;obtain ⟨S1,hS1⟩:∃S1:St,S1=S++[.arr [s.v] 8 1]:=⟨_,rfl⟩;have b0:S1[S.length]?=some (.arr [s.v] 8 1):=by rw[hS1];simp
 have kS:Kp (fun _=>False) S S1:=by rw[hS1];exact (Kp.refl _ _).push _
 simp[c31,qE];rw[←hS1];simp[ldS,b0];refine qe (jY s hs S1) ?_;by_cases he:(Pa.st s).err qb=0
 ·simp[he,ldS,b0];refine qh (qeT s hs hsz hn S1) ?_;rintro r U ⟨m,c4,c5,c6,v,ps,F,D,rfl,k,kU,_⟩;have hb:(s.wholeH coP ([],[]):List Bz×List Bz).2=s.bounds:=s.whole_bounds;simp;refine qh (qob k (by rw[hb,s.bounds_len];exact hn)) ?_;rintro r U2 ⟨rfl,⟨bs,ck,hst,hm⟩,k2⟩;rw[hb] at hm;simp;refine qh (qg0 U.length _ bs ck U2 hm hst (Qi qsz) ?_ ?_) ?_
  ·have h1:=z7 (l:=s.bounds) (ks:=[]);rw[s.bounds_len] at h1;simp only[qri] at h1;exact qra h1 (by omega)
  ·intro x hx;rw[yd] at hx;exact qra (s.bounds_ok hs x (hx.elim (fun h=>by simp at h) id)) (by decide)
  ·rintro r U3 ⟨rfl,rfl⟩;simp;exact qg rfl ⟨rfl,(kS.trans kU).trans k2⟩
 ·simp[he];exact qg rfl ⟨rfl,kS⟩
end Go.Proofs.YtbifpocccfkhhaaGreatDoor

namespace Go.Proofs.YtbifpocccfkhhaaGreatDoor
open Go
def ltB(a b:Bz):Prop:=a.data.toList<b.data.toList
theorem qml(a:Bz):¬ ltB a a:=List.lt_irrefl _
theorem Yy{ks:List Bz}{x:Bz}:x∈ZM ks↔x∈ks:=by
 unfold ZM;rw[qqT];constructor
 ·rintro ⟨y,hy,rfl⟩;rw[List.mem_mergeSort] at hy;obtain ⟨k,hk,rfl⟩:=qqT.1 hy;simpa using hk
 ·intro hx;exact ⟨x.data.toList,by rw[List.mem_mergeSort];exact qrm hx,by simp⟩
theorem qeB{ks:List Bz}(nd:ks.Nodup):(ZM ks).Pairwise ltB:=by
 unfold ZM;rw[List.pairwise_map];have tr:∀a b c:List UInt8,decide (a≤b)=true→decide (b≤c)=true→decide (a≤c)=true:=fun a b c h1 h2=>by simp only[decide_eq_true_eq] at *;exact List.le_trans h1 h2
 have to:∀a b:List UInt8,(decide (a≤b) || decide (b≤a))=true:=fun a b=>by simp only[qst,decide_eq_true_eq];exact List.le_total a b
 have h1:=List.pairwise_mergeSort tr to (ks.map fun k=>k.data.toList)
 have h2:((ks.map fun k=>k.data.toList).mergeSort fun x y=>decide (x≤y)).Nodup:=by
  refine ((List.mergeSort_perm _ _).nodup_iff).2 ?_;exact List.Pairwise.map _ (fun a b hab hh=>hab (qsn (Array.ext' hh))) nd
 refine (h1.and h2).imp ?_;rintro a b ⟨h3,h4⟩;show a<b;simp only[decide_eq_true_eq] at h3;by_cases hlt:a<b
 ·exact hlt
 ·exact absurd (List.le_antisymm h3 (List.not_lt.1 hlt)) h4
end Go.Proofs.YtbifpocccfkhhaaGreatDoor




namespace Go.Proofs.YtbifpocccfkhhaaGreatDoor
open Go
theorem Gr.rd{n0:Nat}{ys:List Bz}{v:V}{S:St}(h:Gr 1 n0 (ys.map .str) v S):Rd v ys S:=by
 rcases h with ⟨h1,rfl⟩|⟨l,wr,h1,rfl,h3,h4⟩
 ·have:ys=[]:=by simpa using h1
  subst this;exact Rd.sl true [] S
 ·rw[qqF] at h4 ⊢;exact Rd.arr h3 h4
open Go.Proofs.Tryz
theorem qlx(x:Bz){p3 p5 p7 t3 t5 m:Nat}{tks fks:List Bz}{b1 b2:List Nat}{c1 c2:Nat}{c:Bz→Int}{S:St}(h3:S[p3]?=some (.arr [.map t3] 1 1))(h3':S[t3]?=some (.map (tks.map kv) b1 c1))(h5:S[p5]?=some (.arr [.map t5] 1 1))(h5':S[t5]?=some (.map (fks.map kv) b2 c2))(h7:S[p7]?=some (.arr [.map m] 1 1))(hc:Cm c m S):
  Fn prog 146 [.str x,.ptr p3 0 0 1,.ptr p5 0 0 1,.ptr p7 0 0 1] S (.bool (ZY x tks || ZY x fks || decide (0<c x))):=by
 refine qv.ib func146 ok146 ?_;have l1:=qgv x h3';have l2:=qgv x h5';have l3:=hc.get x
 cases h1:ZY x tks with
 | true=>
  rw[h1] at l1;simp[c146,ldS,h3,evX,l1,V.part,V.cells];exact qg rfl ⟨rfl,rfl⟩
 | false=>
  rw[h1] at l1
  cases h2:ZY x fks with
  | true=>
   rw[h2] at l2;simp[c146,ldS,h3,h5,evX,l1,l2,V.part,V.cells];exact qg rfl ⟨rfl,rfl⟩
  | false=>
   rw[h2] at l2;simp[c146,ldS,h3,h5,h7,evX,l1,l2,l3,V.part,V.cells];exact qg rfl ⟨by simp[qq],rfl⟩
theorem Rd.flat{v:V}{l:List Bz}{S:St}(h:Rd v l S):v.cells=[v]∧v.flat=true∧v.size=1:=by
 have:=h.1;cases v <;> simp[lenS] at this <;> exact ⟨rfl,rfl,rfl⟩
theorem qmg(p c k:Nat)(x y:Bz)(tv:V)(l:List Bz)(U:St)(hp:U[p]?=some (plc x k y))(hc:U[c]?=some (.arr [tv] 1 1))(hr:Rd tv l U)(hk:k<l.length):
  qv prog 147 [.ptr p 0 0 1,.ptr c 0 0 1] U (fun _ U'=>U'=U.set p (plc x k (lf l k))):=by
 refine qv.ib func147 ok147 ?_;have hlf:lf l k=l[k]:=by unfold lf;rw[qqD hk];rfl
 have hfl:=hr.flat;obtain ⟨q,q1,q2⟩:=hr.2 k hk;rw[hlf];unfold plc at hp ⊢;have e1:ldS U (.ptr p 0 0 1) none=some (.int .i64 k):=by simp[ldS,hp]
 have e2:ldS U (.ptr c 0 0 1) none=some tv:=by simp[ldS,hc,hfl]
 have e3:stS U (.ptr p 0 2 1) 1 (.str l[k])=some (U.set p (.arr [.agg [.int .i64 k,.str x,.str l[k]]] 3 1)):=by simp[stS,hp,qi]
 simp[c147,e1,e2,zW,q1,q2,e3];refine jB rfl rfl ?_;exact qB rfl rfl
structure Ap(l:List Bz)(c:Nat)(tv:V)(F D:Np)(U:St):Prop where
 f:∀x,¬ F x
 d:∀x,D x↔x=c∨∃n,tv=.arr x 0 n n
 c:U[c]?=some (.arr [tv] 1 1)
 t:(l=[]∧tv=.sl true [])∨∃a wr,tv=.arr a 0 l.length l.length∧U[a]?=some (.arr (l.map .str) 1 wr)∧wr≤l.length
section
variable {l:List Bz} {c:Nat} {tv:V} {F D:Np} {U:St}
theorem Ap.rd(k:Ap l c tv F D U):Rd tv l U:=by
 rcases k.t with ⟨rfl,rfl⟩|⟨a,wr,rfl,h1,h2⟩
 ·exact Rd.sl true [] U
 ·exact Rd.arr h1 h2
theorem Ap.gD(k:Ap l c tv F D U){x:Nat}(h:D x):∃o,U[x]?=some o∧(∀i,o≠.loop i)∧∀y k z,o≠plc y k z:=by
 rcases (k.d x).1 h with rfl|⟨n,hn⟩
 ·refine ⟨_,k.c,by simp,fun y i z hh=>?_⟩;unfold plc at hh;simp at hh
 ·rcases k.t with ⟨_,rfl⟩|⟨a,wr,rfl,h1,h2⟩
  ·cases hn
  ·cases hn;refine ⟨_,h1,by simp,fun y i z hh=>?_⟩;unfold plc at hh;simp at hh
theorem Ap.fr{U':St}{M:Np}(k:Ap l c tv F D U)(hk:Kp M U U')(hM:∀l,M l→l<U.length→¬ F l∧¬ D l):Ap l c tv F D U':=by
 have g:∀{x o},U[x]?=some o→D x→U'[x]?=some o:=fun ho hd=>hk.at ho fun hm=>(hM _ hm (glt ho)).2 hd
 refine ⟨k.f,k.d,g k.c ((k.d _).2 (.inl rfl)),k.t.imp id fun ⟨a,wr,h1,h2,h3⟩=>⟨a,wr,h1,g h2 ((k.d _).2 (.inr ⟨_,h1⟩)),h3⟩⟩
end
def apC(l:List Bz)(c:Nat):Cb where
 toPw:=nuP (lf l)
 fe:=.fn (.func 147) [] [.ptr c 0 0 1]
 fn:=.nilfn
 fc:=.nilfn
 I _ F D U:=∃tv,Ap l c tv F D U
 cn _ _:=True
 lim:=l.length
theorem qn6(l:List Bz)(c:Nat)(hl:l.length≤100001):(apC l c).Ok where
 lim:=hl
 lt:=fun ⟨tv,k⟩ x hx=>by
  rcases hx with hx|hx
  ·exact absurd hx (k.f x)
  ·obtain ⟨o,ho,_⟩:=k.gD hx;exact glt ho
 fr:=fun ⟨tv,k⟩ hk hM=>⟨tv,k.fr hk hM⟩
 lp:=fun ⟨tv,k⟩ x o ho=>⟨k.f x,fun hd=>by
  obtain ⟨o',ho',h1,_⟩:=k.gD hd;rw[ho] at ho';cases ho';exact h1 _ rfl⟩
 ce _ _:=trivial
 cm _ _ _ _:=trivial
 cc _ _ _:=trivial
 real:=fun {h F D S} ⟨tv,k⟩ h'=>⟨F,D,S,⟨tv,k⟩,Kp.refl _ _,grow.refl _ _,grow.refl _ _⟩
 en:=.inr ⟨147,[.ptr c 0 0 1],rfl,fun U p k x h F D hp hF hD hk _ ⟨tv,hI⟩=>by
  refine qv.mono (qmg p c k x x tv l U hp hI.c hI.rd hk) fun v U' hU=>?_
  subst hU;exact ⟨F,D,⟨tv,hI.fr (M:=fun y=>y=p) ((Kp.refl _ _).set _ (.inl rfl)) fun y hy _=>by rw[hy];exact ⟨hF,hD⟩⟩,qqz (glt hp),(Kp.refl _ _).set _ (.inl (.inl rfl)),grow.refl _ _,fun _ h=>.inl h⟩⟩
 nm:=rfl
 cl:=rfl
end Go.Proofs.YtbifpocccfkhhaaGreatDoor
end
