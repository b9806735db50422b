/- A part. -/
import Derived.Test.YtbifpocccfkhhaaGreatDoorTi
set_option linter.all false
namespace Go.Proofs.YtbifpocccfkhhaaGreatDoor
open Go Go.Proofs.Tryz
theorem Yu(x:Bz):∀(l:List Bz) (s:Sco) (n:Nat),binds (l++[x]) s n=(if ((binds l s n).at x).isSome then binds l s n else binds l s n++[(x,n+((binds l s n).length - s.length))])∧s.length≤(binds l s n).length
 | [],s,n=>by simp only[qqF,binds];exact ⟨by simp,qpo _⟩
 | y::l,s,n=>by
  simp only[qpO,binds];split
  ·exact Yu x l s n
  ·obtain ⟨h1,h2⟩:=Yu x l (s++[(y,n)]) (n+1);simp only[qpw,qpF,qqj] at h2;refine ⟨?_,by omega⟩;rw[h1];split
   ·rfl
   ·rw[show n+1+((binds l (s++[(y,n)]) (n+1)).length - (s++[(y,n)]).length)=n+((binds l (s++[(y,n)]) (n+1)).length - s.length) by simp;omega]
theorem yU(x:Bz)(l:List Bz)(n:Nat):qd (l++[x]) n=if ((qd l n).at x).isSome then qd l n else qd l n++[(x,n+(qd l n).length)]:=by
 have:=(Yu x l [] n).1;unfold qd;rw[this];simp only[qqj,Nat.sub_zero]
theorem YK(names:List Bz)(n:Nat):∀(k i:Nat),i+k=names.length→(qd (names.take i) n).length≤(qd names n).length
 | 0,i,h=>by rw[qp8 (by omega)];exact qpo _
 | k+1,i,h=>by
  have h1:=YK names n k (i+1) (by omega);have hlt:i<names.length:=by omega
  have hs:=yU names[i] (names.take i) n;rw[show names.take i++[names[i]]=names.take (i+1) by rw[qpI,qpn hlt];rfl] at hs
  have:(qd (names.take i) n).length≤(qd (names.take (i+1)) n).length:=by
   rw[hs];split
   ·exact qpo _
   ·simp only[qpw];omega
  omega
theorem qgU(y:V):V.upd .nilp 0 1 y=if y.size=1∧y.cells.all V.flat=true then some y else none:=rfl
theorem qi2{S:St}{lm:Nat}{t:Sct}{bs:List Nat}{ck:Nat}(x:Bz)(v:V)(h:S[lm]?=some (.map (t.map qd5) bs ck))(hx:ZP t x=none):
  qap S .str (.map lm) (.str x) v=some (S.set lm (.map (t.map qd5++[(.str x,v)]) (bs++[ck]) (ck+1))):=by
 obtain ⟨j,hj⟩:=ZM x t 0;unfold qap;rw[if_pos (by rfl)];simp only[h,hj,hx];rfl
def jQ(n:Nat):List Nat:=List.range n
structure BJ(c:Cb)(w ci n B:Nat)(v:V)(co:Ob)(h:c.H)(F D:Np)(t:Sct)(U:St):Prop where
 wk:Wk c w (n+t.length) (enters c.toPw h t.sco) F D U
 tc:U[ci]?=some co
 t0:U[B]?=some (.arr [.ptr w 0 0 1] 1 1)
 t1:U[B+1]?=some (.arr [.agg [v]] 1 1)
 t2:U[B+2]?=some (.map (t.map qd5) (jQ t.length) t.length)
 t3:U[B+3]?=some (.arr [.agg [.ptr (B+1) 0 0 1,.map (B+2)]] 2 1)
 t4:U[B+4]?=some (.arr [.ptr (B+3) 0 0 1] 1 1)
 off:∀j,j<5→Off w F D (B+j)
 offc:Off w F D ci
 pl:∀e,e∈t→¬ F e.2.2∧U[e.2.2]?=some (plc e.1 e.2.1 (c.f e.2.1 e.1))
 ge:∀e,e∈t→B+6≤e.2.2
section
variable {c:Cb} (ok:c.Ok) {w ci n B:Nat} {v:V} {co:Ob} {h:c.H} {F D:Np} {t:Sct} {U:St}
include ok
theorem BJ.push(b:BJ c w ci n B v co h F D t U)(o:Ob):BJ c w ci n B v co h F D t (U++[o]):=
 ⟨b.wk.push ok _,gp b.tc,gp b.t0,gp b.t1,gp b.t2,gp b.t3,gp b.t4,b.off,b.offc,fun e he=>⟨(b.pl e he).1,gp (b.pl e he).2⟩,b.ge⟩
theorem Wk.loop{n:Nat}{h:c.H}(k:Wk c w n h F D U){L:Nat}{i:LI}(o:Ob)(hL:U[L]?=some (.loop i)):Wk c w n h F D (U.set L o):=
 k.set ok o (by rintro rfl;have:=k.tw;rw[hL] at this;cases this) (ok.lp k.st L i hL).1 (ok.lp k.st L i hL).2
theorem BJ.loop(b:BJ c w ci n B v co h F D t U)(hco:∀i,co≠.loop i){L:Nat}{i i':LI}(hL:U[L]?=some (.loop i)):BJ c w ci n B v co h F D t (U.set L (.loop i')):=
 ⟨b.wk.loop ok _ hL,gl b.tc hco hL,gl b.t0 (by simp) hL,gl b.t1 (by simp) hL,gl b.t2 (by simp) hL,gl b.t3 (by simp) hL,gl b.t4 (by simp) hL,b.off,b.offc,fun e he=>⟨(b.pl e he).1,gl (b.pl e he).2 (by simp[plc]) hL⟩,b.ge⟩
def yW(c:Cb)(w n B:Nat)(x:Bz)(t:Sct)(W:St):St:=
 ((W++[plc x (n+t.length) x]).set w (wkr c (n+t.length+1))).set (B+2) (.map (t.map qd5++[(.str x,.ptr W.length 0 0 1)]) (jQ t.length++[t.length]) (t.length+1))
omit ok in
theorem Js(x:Bz)(W:St):Kp (fun l=>l=w∨l=B+2) W (yW c w n B x t W):=by
 unfold yW;exact (((Kp.refl _ _).push _).set _ (.inl (.inl rfl))).set _ (.inl (.inr rfl))
omit ok in
theorem qag(x:Bz)(W:St):(yW c w n B x t W).length=W.length+1:=by unfold yW;simp
omit ok in
theorem qlI(x:Bz){W:St}(hw:w<W.length)(hB:B+2<W.length):(yW c w n B x t W)[W.length]?=some (plc x (n+t.length) x):=by
 unfold yW;rw[qpm (by omega),qpm (by omega)];simp
theorem BJ.ready(b:BJ c w ci n B v co h F D t U)(x:Bz):c.I (enters c.toPw h t.sco) F D (yW c w n B x t U):=
 ok.fr b.wk.st (Js x U) fun l hl _=>by
  rcases hl with rfl|rfl
  ·exact ⟨b.wk.nF,b.wk.nD⟩
  ·exact ⟨(b.off 2 (by omega)).2.1,(b.off 2 (by omega)).2.2⟩
theorem BJ.step(b:BJ c w ci n B v co h F D t U)(x:Bz)(hw:w<B)(hc:ci<B)(hB:B+6≤U.length){F' D':Np}{X:St}(hX:c.I (c.ent (enters c.toPw h t.sco) (n+t.length) x) F' D' X)
  (hp:X[U.length]?=some (plc x (n+t.length) (c.f (n+t.length) x))) (hk:Kp (fun l=>l=U.length∨F l) (yW c w n B x t U) X) (gF:grow (yW c w n B x t U) F F') (gD:∀l,D' l→D l∨l=U.length∨(yW c w n B x t U).length≤l):
  BJ c w ci n B v co h F' D' (t++[(x,n+t.length,U.length)]) X∧(∀{F0 D0:Np} {S:St},S.length≤B→Stp w F0 D0 S F D U→Stp w F0 D0 S F' D' X):=by
 have hl:=qag (c:=c) (w:=w) (n:=n) (B:=B) (t:=t) x U;have lt:∀l,F l∨D l→l<U.length:=ok.lt b.wk.st;have hs:=b.push ok (plc x (n+t.length) x)
 have get:∀(l:Nat) (o:Ob),U[l]?=some o→l≠w→l≠B+2→¬ F l→X[l]?=some o:=fun l o ho h1 h2 h3=>by
  have hlt:=(qpi.1 ho).1;exact hk.at ((Js x U).at ho (by rintro (rfl|rfl) <;> contradiction)) (by rintro (rfl|hf);omega;exact h3 hf)
 have nF:∀l,l<U.length→¬ F l→¬ F' l:=fun l h1 h2 h3=>(gF l h3).elim h2 (by omega)
 have nD:∀l,l<U.length→¬ D l→¬ D' l:=fun l h1 h2 h3=>(gD l h3).elim h2 (by omega)
 have offN:∀l,l<U.length→Off w F D l→Off w F' D' l:=fun l h1 h2=>⟨h2.1,nF l h1 h2.2.1,nD l h1 h2.2.2⟩
 have hsl:t.sco.length=t.length:=qps _;have hsco:Sct.sco (t++[(x,n+t.length,U.length)])=t.sco++[(x,n+t.length)]:=qpH;refine ⟨⟨⟨?_,?_,nF w (by omega) b.wk.nF,nD w (by omega) b.wk.nD,?_⟩,get _ _ b.tc b.offc.1 (by omega) b.offc.2.1,get _ _ b.t0 (by omega) (by omega) (b.off 0 (by omega)).2.1,get _ _ b.t1 (by omega) (by omega) (b.off 1 (by omega)).2.1,?_,get _ _ b.t3 (by omega) (by omega) (b.off 3 (by omega)).2.1,get _ _ b.t4 (by omega) (by omega) (b.off 4 (by omega)).2.1,fun j hj=>offN _ (by omega) (b.off j hj),offN _ (by omega) b.offc,?_,?_⟩,fun {F0 D0 S} hS s=>⟨⟨?_,fun l hl hn=>?_⟩,fun l hf=>(gF l hf).elim (s.gF l) (by have:=s.k.len;omega),fun l hf=>(gD l hf).elim (s.gD l) (by have:=s.k.len;omega)⟩⟩
 ·have:(yW c w n B x t U)[w]?=some (wkr c (n+t.length+1)):=by
   unfold yW;rw[qpm (by omega),qpl (by simp;omega)]
  rw[hk.at this (by rintro (rfl|hf);omega;exact b.wk.nF hf)];simp[qp3]
 ·rw[hsco];unfold enters;rw[qpX];exact hX
 ·rw[hsco];unfold enters;rw[qpX,qpw,←qp3];exact ok.ce x b.wk.cn
 ·have:(yW c w n B x t U)[B+2]?=some (.map (t.map qd5++[(.str x,.ptr U.length 0 0 1)]) (jQ t.length++[t.length]) (t.length+1)):=by
   unfold yW;rw[qpl (by simp;omega)]
  rw[hk.at this (by rintro (hh|hf);omega;exact (b.off 2 (by omega)).2.1 hf)];simp[jQ,List.range_succ,qd5]
 ·intro e he;rcases qpr.1 he with he|he
  ·have h1:=b.ge e he;have h2:=glt (b.pl e he).2;exact ⟨nF _ h2 (b.pl e he).1,get _ _ (b.pl e he).2 (by omega) (by omega) (b.pl e he).1⟩
  ·simp at he;subst he;refine ⟨fun hf=>(gF _ hf).elim (fun hh=>?_) (fun hh=>?_),hp⟩
   ·have:=lt _ (.inl hh);simp at this
   ·simp only at hh;omega
 ·intro e he;rcases qpr.1 he with he|he
  ·exact b.ge e he
  ·simp at he;subst he;exact hB
 ·have:=s.k.len;have:=hk.len;omega
 ·have h1:=s.k.len;have h2:¬ F l:=fun hf=>hn (.inr ((s.gF l hf).resolve_right (by omega)))
  rw[hk.get l (by omega) (by rintro (rfl|hf);omega;exact h2 hf),(Js x U).get l (by omega) (by rintro (rfl|rfl);exact hn (.inl rfl);omega)];exact s.k.get l hl hn
end
def qnz(c:Cb)(w n:Nat)(h:c.H)(F D Y:Np)(ts:List Sct)(s:Sco)(S:St)(r:V)(U:St):Prop:=
 ∃(t:Sct) (F' D':Np),t.sco=s∧Wk c w (n+t.length) (enters c.toPw h s) F' D' U∧Stp w F D S F' D' U∧ScR c.toPw (fun l=>l=w∨F' l∨Y l) U r (t::ts)
def qpc(c:Cb)(w ci n:Nat)(v:V)(co:Ob)(h:c.H)(F D:Np)(names:List Bz)(S:St)(i:Nat)(G:Np)(U:St):Prop:=
 ∃(t:Sct) (F' D':Np),G=(fun x=>x=w∨x=S.length+2∨F' x)∧t.sco=qd (names.take i) n∧BJ c w ci n S.length v co h F' D' t U∧Stp w F D S F' D' U
theorem jZ(c:Cb)(ok:c.Ok)(w n:Nat)(h:c.H)(F D:Np)(v:V)(ts:List Sct)(names:List Bz)(g:Nat)(cs:List V)(ci:Nat)(co:Ob)(hy:qao prog g [] cs (qd6 names) (fun U=>U[ci]?=some co))(hco:∀i,co≠.loop i)(S:St)
  (hk:Wk c w n h F D S) (Y:Np) (hY:∀l,Y l→l<S.length) (hsc:ScR c.toPw (fun l=>l=w∨F l∨Y l) S v ts) (hc:S[ci]?=some co) (hoc:Off w F D ci) (hn:n+(qd names n).length≤c.lim):
  qt prog 157 [.ptr w 0 0 1,v,.fn (.func g) [] cs] S (fun r U=>qnz c w n h F D Y ts (qd names n) S r U):=by
 refine qt.ib func157 ok157 ?_;have lw:=glt hk.tw;have lc:=glt hc
 obtain ⟨hvc,hvf⟩:v.cells=[v]∧v.flat=true:=by
  cases ts with
  | nil=>have h':v=.nilp:=hsc;subst h';exact ⟨rfl,rfl⟩
  | cons t r=>obtain ⟨l,_,_,_,_,_,rfl,_⟩:=hsc;exact ⟨rfl,rfl⟩
 have hvs:v.size=1:=by show v.cells.length=1;rw[hvc];rfl
 simp[c157,qM,ldS,stS,qi,qgU,qY,qF,evX,hvc,hvf,hvs];obtain ⟨B1,hB1⟩:∃B1:St,S++[.arr [.ptr w 0 0 1] 1 1,.arr [.agg [v]] 1 1,.map [] [] 0,.arr [.agg [.ptr (S.length+1) 0 0 1,.map (S.length+2)]] 2 1,.arr [.ptr (S.length+3) 0 0 1] 1 1]=B1:=⟨_,rfl⟩
 have hb:∀(j:Nat) (o:Ob),[Ob.arr [.ptr w 0 0 1] 1 1,.arr [.agg [v]] 1 1,.map [] [] 0,.arr [.agg [.ptr (S.length+1) 0 0 1,.map (S.length+2)]] 2 1,.arr [.ptr (S.length+3) 0 0 1] 1 1][j]?=some o→B1[S.length+j]?=some o:=fun j o h=>by
  rw[←hB1,qpj (by omega),qqC];exact h
 have lB:B1.length=S.length+5:=by rw[←hB1];simp
 have kB:Stp w F D S F D B1:=by rw[←hB1];exact (Stp.refl _ _ _ _).push _
 have bj0:BJ c w ci n S.length v co h F D [] B1:=⟨by rw[←hB1];exact hk.push ok _,by rw[←hB1,qpk lc];exact hc,hb 0 _ rfl,hb 1 _ rfl,hb 2 _ rfl,hb 3 _ rfl,hb 4 _ rfl,fun j _=>hk.out ok (by omega),hoc,fun e he=>by simp at he,fun e he=>by simp at he⟩;rw[hB1];clear hb hB1;refine qaX (k:=g) (fs:=[]) (cs:=cs) (by simp) hy rfl rfl rfl (by intro a ha;obtain ⟨x,_,rfl⟩:=qpE.1 ha;rfl) (fun x=>x=w∨x=S.length+2∨F x)
  (qpc c w ci n v co h F D names S) (fun _ _=>False) (fun _ _ _=>False) ?_ ?_ ?_ ?_ ?_ ?_ ?_ ?_ ?_ ?_ ?_ ?_ ?_
 ·rintro i G U ⟨t,F',D',rfl,_,h,_⟩ x (rfl|rfl|hx)
  ·exact glt h.wk.tw
  ·exact glt h.t2
  ·exact ok.lt h.wk.st x (.inl hx)
 ·rintro i G U ⟨t,F',D',_,_,h,_⟩;exact h.tc
 ·rintro i G U ⟨t,F',D',h0,h1,h,hk⟩ o;exact ⟨t,F',D',h0,h1,h.push ok o,hk.push _⟩
 ·rintro G U h;exact h.elim
 ·rintro id G U h;exact h.elim
 ·rintro i G U L o o' hL ⟨t,F',D',h0,h1,h,hk⟩ hl;exact ⟨t,F',D',h0,h1,h.loop ok hco hl,hk.set _ (by omega)⟩
 ·rintro G U L o o' hL h;exact h.elim
 ·rintro id G U L o o' hL h;exact h.elim
 ·exact ⟨[],F,D,rfl,rfl,bj0.push ok _,kB.push _⟩
 ·rintro i av hav G U ⟨t,F1,D1,rfl,ht,hj,hkS⟩ hk1 hl;unfold qd6 at hav;rw[qpt] at hav;obtain ⟨x,hx,rfl⟩:=qpq.1 hav;have hnext:=yU x (names.take i) n;have hte:names.take i++[x]=names.take (i+1):=by rw[qpI,hx];rfl
  rw[hte,←ht,kJ] at hnext;have hsl:t.sco.length=t.length:=qps _
  have htl:t.length≤(qd names n).length:=by
   have h1:=YK names n (names.length - i) i (by have:=(qpi.1 hx).1;omega);rw[←ht,hsl] at h1;exact h1
  generalize hke:Env.keep _ _=ke at hl ⊢;have k3:ke.get 3=some (.ptr S.length 0 0 1):=by rw[←hke];exact Env.keep_get (by simp) (by simp)
  have k7:ke.get 7=some (.ptr (S.length+4) 0 0 1):=by rw[←hke];exact Env.keep_get (by simp) (by simp)
  clear hke;simp[QA];refine QQ hl rfl ?_;have lV:=glt hl;obtain ⟨li,hli⟩:∃li:LI,li={ st:=.busy,pend:=none,ps:=[19],asg:=(Qm Tryz.f157 0).fst,body:=(Qm Tryz.f157 0).snd,e:=ke,N:=63 }:=⟨_,rfl⟩;show WP _ _ _ _ (U.set B1.length (.loop { st:=.busy,pend:=none,ps:=[19],asg:=(Qm Tryz.f157 0).fst,body:=(Qm Tryz.f157 0).snd,e:=ke,N:=63 }));rw[←hli];have hjw:=hj.loop ok hco hl (i':=li);have hLw:(U.set B1.length (.loop li))[B1.length]?=some (.loop li):=qpl lV;have hLo:=hj.wk.loop ok (o:=.loop li) hl;have hoL:Off w F1 D1 B1.length:=⟨by omega,(ok.lp hj.wk.st _ _ hl).1,(ok.lp hj.wk.st _ _ hl).2⟩;have h3w:Stp w F D S F1 D1 (U.set B1.length (.loop li)):=hkS.set _ (by omega);have lW:(U.set B1.length (.loop li)).length=U.length:=by simp
  have hkw:Kg (fun x=>(x=w∨x=S.length+2∨F1 x)∨x=B1.length) U (fun x=>(x=w∨x=S.length+2∨F1 x)∨x=B1.length) (U.set B1.length (.loop li)):=(Kg.refl _ _).set _ (.inl (.inr rfl));generalize U.set B1.length (.loop li)=W at hjw hLw h3w lW hkw ⊢;clear hLo;have hlk:=qfO x hjw.t2;simp[k3,k7,zQ,ldS,hjw.t4,hjw.t3,evX,hlk]
  cases hlo:ZP t x with
  | some p=>
   rw[hlo] at hnext;simp only[qpD,Option.isSome_some,if_true] at hnext;simp;subst hli;exact kN ⟨rfl,rfl⟩ hLw hkw ⟨t,F1,D1,rfl,hnext.symm,hjw.loop ok hco hLw,h3w.set _ (by omega)⟩
  | none=>
   rw[hlo] at hnext;simp only[Option.map_none,Option.isSome_none,qpM,if_false,hsl] at hnext;have hw0:=hjw.wk.tw;unfold wkr at hw0;simp[k3,k7,zQ,ldS,hjw.t0,hw0,stS,qY,qF,evX,qi,qM];have hs1:=hjw.push ok (plc x (n+t.length) x);have hme:=qi2 x (.ptr W.length 0 0 1) (lm:=S.length+2) (S:=(W++[plc x (n+t.length) x]).set w (wkr c (n+t.length+1))) (by rw[qpm (by omega)];exact hs1.t2) hlo;have hs1w:=hs1.wk.tw;have p0:=hs1.t0;have p4:=hs1.t4;have p3:=hs1.t3;have hbs:yW c w n S.length x t W=((W++[plc x (n+t.length) x]).set w (wkr c (n+t.length+1))).set (S.length+2) (.map (t.map qd5++[(.str x,.ptr W.length 0 0 1)]) (jQ t.length++[t.length]) (t.length+1)):=rfl;unfold wkr plc at hs1w hme hbs;unfold plc at p0 p3 p4;push_cast at hs1w hme hbs p0 p3 p4;generalize hW1:W++[Ob.arr [.agg [.int .i64 ((n:Int)+(t.length:Int)),.str x,.str x]] 3 1]=W1 at hs1w hme hbs p0 p3 p4 ⊢;have lW1:W1.length=W.length+1:=by rw[←hW1];simp
   have hL:=ok.lim
   have htl1:t.length+1≤(qd names n).length:=by
    have h1:=YK names n (names.length - (i+1)) (i+1) (by have:=(qpi.1 hx).1;omega);rw[hnext,qpw,hsl] at h1;exact h1
   have i1:=qz (n:=(n:Int)+(t.length:Int)+1) (by omega) (by omega);obtain ⟨wo,hwo⟩:∃wo,wo=Ob.arr [V.agg [V.int IntKind.i64 (↑n+↑t.length+1),c.fe,c.fn,c.fc]] 4 1:=⟨_,rfl⟩;have e0:(W1.set w wo)[S.length]?=some (.arr [.ptr w 0 0 1] 1 1):=by rw[qpm (by omega)];exact p0
   have e3:(W1.set w wo)[S.length+3]?=some (.arr [.agg [.ptr (S.length+1) 0 0 1,.map (S.length+2)]] 2 1):=by rw[qpm (by omega)];exact p3
   have e4:(W1.set w wo)[S.length+4]?=some (.arr [.ptr (S.length+3) 0 0 1] 1 1):=by rw[qpm (by omega)];exact p4
   have ew:(W1.set w wo)[w]?=some wo:=qpl (by omega);simp[k3,k7,zQ,ldS,p0,hs1w,stS,qi,i1];rw[←hwo] at hme hbs ⊢;generalize W1.set w wo=W2 at e0 e3 e4 ew hme hbs ⊢;subst hwo;simp[k3,k7,zQ,ldS,e4,e3,evX,hme];rw[←hbs];have hbl:=qag (c:=c) (w:=w) (n:=n) (B:=S.length) (t:=t) x W;have kb:=Js (c:=c) (w:=w) (n:=n) (B:=S.length) (t:=t) x W;have g0:(yW c w n S.length x t W)[S.length]?=some (.arr [.ptr w 0 0 1] 1 1):=by rw[hbs,qpm (by omega)];exact e0
   have gw:(yW c w n S.length x t W)[w]?=some (Ob.arr [V.agg [V.int IntKind.i64 (↑n+↑t.length+1),c.fe,c.fn,c.fc]] 4 1):=by rw[hbs,qpm (by omega)];exact ew
   have gL:(yW c w n S.length x t W)[B1.length]?=some (.loop li):=kb.at hLw (by omega);have gp':=qlI (c:=c) (w:=w) (n:=n) (B:=S.length) (t:=t) x (W:=W) (by omega) (by omega);have gI:=hjw.ready ok x;have kk:Kp (fun x=>(x=w∨x=S.length+2∨F1 x)∨x=B1.length) U (yW c w n S.length x t W):=hkw.k.trans (kb.mono fun l _ h=>.inl (h.imp id .inl));clear hbs hme e3 e4;have z0:=e0;clear e0;have fin:∀(F2 D2:Np) (X:St),c.I (c.ent (enters c.toPw h t.sco) (n+t.length) x) F2 D2 X→X[W.length]?=some (plc x (n+t.length) (c.f (n+t.length) x))→Kp (fun l=>l=W.length∨F1 l) (yW c w n S.length x t W) X→grow (yW c w n S.length x t W) F1 F2→(∀l,D2 l→D1 l∨l=W.length∨(yW c w n S.length x t W).length≤l)→
     ∃(t':Sct) (F' D':Np),X[B1.length]?=some (.loop li)∧Kg (fun x=>(x=w∨x=S.length+2∨F1 x)∨x=B1.length) U (fun x=>(x=w∨x=S.length+2∨F' x)∨x=B1.length) X∧t'.sco=qd (names.take (i+1)) n∧BJ c w ci n S.length v co h F' D' t' X∧Stp w F D S F' D' X:=fun F2 D2 X hX hp hkX gF gD=>by
    obtain ⟨q1,q2⟩:=hjw.step ok x lw lc (by omega) hX hp hkX gF gD;refine ⟨_,F2,D2,hkX.at gL (by rintro (hh|hh);omega;exact hoL.2.1 hh),⟨⟨qpV kk.len hkX.len,fun l hl hn=>?_⟩,fun l hl=>?_⟩,by rw[hnext];exact qpH,q1,q2 (qpo _) h3w⟩
    ·rw[hkX.get l (by omega) (by
      rintro (hh|hh)
      ·omega
      ·exact hn (.inl (.inr (.inr hh))))]
     exact kk.get l hl hn
    ·rcases hl with (hl|hl|hl)|hl
     ·exact .inl (.inl (.inl hl))
     ·exact .inl (.inl (.inr (.inl hl)))
     ·exact (gF l hl).imp (fun a=>.inl (.inr (.inr a))) fun a=>by omega
     ·exact .inl (.inr hl)
   generalize yW c w n S.length x t W=W3 at g0 gw gL gp' gI kk fin hbl ⊢;rcases ok.en with ⟨e0,e1,e2⟩|⟨ge,ces,e0,hfs⟩
   ·simp[k3,k7,zQ,ldS,g0,gw,z0,ew,e0,yl,eqV];obtain ⟨t',F',D',f1,f2,f3,f4,f5⟩:=fin F1 D1 W3 (by rw[e2];exact gI) (by rw[e1];exact gp') (Kp.refl _ _) (grow.refl _ _) (fun l hl=>.inl hl);subst hli;exact kN ⟨rfl,rfl⟩ f1 f2 ⟨t',F',D',rfl,f3,f4.loop ok hco f1,f5.set _ (by omega)⟩
   ·simp[k3,k7,zQ,ldS,g0,gw,z0,ew,e0,yl,eqV];refine qj (hfs W3 W.length (n+t.length) x _ F1 D1 gp' (fun hf=>by have:=ok.lt hjw.wk.st _ (.inl hf);omega) (fun hf=>by have:=ok.lt hjw.wk.st _ (.inr hf);omega) (by omega) hjw.wk.cn gI) ?_;rintro r X ⟨F2,D2,hX,hp,hkX,gF,gD⟩;simp;obtain ⟨t',F',D',f1,f2,f3,f4,f5⟩:=fin F2 D2 X hX hp hkX gF gD;subst hli;exact kN ⟨rfl,rfl⟩ f1 f2 ⟨t',F',D',rfl,f3,f4.loop ok hco f1,f5.set _ (by omega)⟩
 ·rintro G U ⟨t,F',D',rfl,ht,hj,hkS⟩ hk;rw[Z0,qp9] at ht;simp[ldS,hj.t4];refine qf rfl ⟨t,F',D',ht,by rw[←ht];exact hj.wk,hkS,S.length+3,S.length+1,S.length+2,v,_,_,rfl,⟨?_,?_,?_⟩,hj.t3,hj.t1,hj.t2,fun e he=>⟨?_,(hj.pl e he).2⟩,hsc.mono (hkS.k.mono fun l _ hh=>hh.imp id .inl) fun l hh=>?_⟩
  ·rintro (hh|hh|hh)
   ·omega
   ·exact (hj.off 3 (by omega)).2.1 hh
   ·have:=hY _ hh;omega
  ·rintro (hh|hh|hh)
   ·omega
   ·exact (hj.off 1 (by omega)).2.1 hh
   ·have:=hY _ hh;omega
  ·rintro (hh|hh|hh)
   ·omega
   ·exact (hj.off 2 (by omega)).2.1 hh
   ·have:=hY _ hh;omega
  ·have:=hj.ge e he;rintro (hh|hh|hh)
   ·omega
   ·exact (hj.pl e he).1 hh
   ·have:=hY _ hh;omega
  ·rcases hh with hh|hh|hh
   ·exact .inl (.inl hh)
   ·exact (hkS.gF l hh).imp (fun a=>.inr (.inl a)) id
   ·exact .inl (.inr (.inr hh))
 ·rintro G U h;exact h.elim
 ·rintro id G U h;exact h.elim
structure Rp where
 fresh:List Bz
 fro:List Bz
 to:List Ex
structure Rst where
 free:List Bz
 bad:Bool
 caught:Bool
def Scs.flat:Scs→Sco
 | []=>[]
 | s::r=>Scs.flat r++s
def mtL:List Bz→List Ex→Bz→Option Ex
 | f::fs,e::es,x=>if f=x then some e else mtL fs es x
 | _,_,_=>none
def mt(r:Rp)(x:Bz):Option Ex:=mtL r.fro r.to x
def qfy(r:Rp)(sc:Scs)(x:Bz):Bz:=match sc.at x with
 | some k=>(r.fresh[k]?).getD x
 | none=>x
def qo9(r:Rp)(sc:Scs)(x:Bz)(st:Rst):Rst:=match sc.at x with
 | some _=>st
 | none=>{ free:=st.free++[x],bad:=st.bad,caught:=st.caught || (match mt r x with
  | some e=>decide (e.kind=6) && (Scs.flat sc).any fun p=>decide (p.1=e.text)
  | none=>false) }
def rmt(r:Rp)(sc:Scs)(x:Bz):Option Ex:=match sc.at x with
 | some _=>none
 | none=>mt r x
def qch(r:Rp)(sc:Scs)(x:Bz):Bz:=match rmt r sc x with
 | some e=>if e.kind=6 then e.text else x
 | none=>qfy r sc x
mutual
def Ex.rw(r:Rp)(sc:Scs):Ex→Ex
 | .mk k o n m e t a=>if k=6 then (match rmt r sc t with
   | some x=>x
   | none=>.mk 6 0 0 0 0 (qfy r sc t) [])
  else .mk k o n m e (if k=7∨k=8 then qch r sc t else t) (Ex.rwl r sc a)
def Ex.rwl(r:Rp)(sc:Scs):List Ex→List Ex
 | []=>[]
 | x::l=>Ex.rw r sc x::Ex.rwl r sc l
end
def El.rw(r:Rp)(sc:Scs)(e:El):El:=⟨e.kind,Ex.rwl r sc e.exps⟩
def Fo.rw(r:Rp)(sc:Scs)(x:Fo):Fo:=⟨qfy r sc x.name,x.value,x.spec,x.type⟩
mutual
def Sm.rw(r:Rp)(sc:Scs)(n:Nat):Sm→Sm
 | .mk l k t g e h d b=>
  if k=7 then
   .mk (l.map (qfy r sc)) k t g e h (De.rwl r (qd (qe d b) n::sc) sc (n+(qd (qe d b) n).length) d) (Sm.rwl r (qd (qe d b) n::sc) (n+(qd (qe d b) n).length+De.nbl d) b)
  else if k=8 then
   .mk (l.map (qfy r sc)) k t g e h d (Sm.rwl r (qd (qk b) n::sc) (n+(qd (qk b) n).length) b)
  else .mk (l.map (qfy r sc)) k (if k=6 then qch r sc t else t) (Ex.rwl r sc g) (Ex.rwl r sc e) (h.map (El.rw r sc)) d (Sm.rw1 r sc n b)
def De.rw(r:Rp)(own sc:Scs)(n:Nat):De→De
 | .mk k o t nm e fo b=>
  if k=4 then .mk k o t (nm.map (qfy r own)) (Ex.rwl r own e) (fo.map (Fo.rw r (qd (fo.map Fo.name) n::own))) (Sm.rw1 r (qd (fo.map Fo.name) n::own) (n+(qd (fo.map Fo.name) n).length) b)
  else .mk k o t (nm.map (qfy r own)) (Ex.rwl r (if k=2 then sc else own) e) fo b
def De.rwl(r:Rp)(own sc:Scs)(n:Nat):List De→List De
 | []=>[]
 | x::l=>De.rw r own sc n x::De.rwl r own sc (n+De.nb x) l
def Sm.rwl(r:Rp)(sc:Scs)(n:Nat):List Sm→List Sm
 | []=>[]
 | x::l=>Sm.rw r sc n x::Sm.rwl r sc (n+Sm.nb x) l
def Sm.rw1(r:Rp)(sc:Scs)(n:Nat):List Sm→List Sm
 | []=>[]
 | x::l=>Sm.rw r (qd x.labels n::sc) (n+(qd x.labels n).length) x::Sm.rw1 r sc (n+(qd x.labels n).length+Sm.nb x) l
end
def nms(l:List Bz):List Bz:=(qd l 0).map (·.1)
mutual
def Sm.bn:Sm→List Bz
 | .mk _ k _ _ _ _ d b=>if k=7 then nms (qe d b)++De.bnl d++Sm.bnl b else if k=8 then nms (qk b)++Sm.bnl b else Sm.bn1 b
def De.bn:De→List Bz
 | .mk k _ _ _ _ f b=>if k=4 then nms (f.map Fo.name)++Sm.bn1 b else []
def De.bnl:List De→List Bz
 | []=>[]
 | x::l=>De.bn x++De.bnl l
def Sm.bnl:List Sm→List Bz
 | []=>[]
 | x::l=>Sm.bn x++Sm.bnl l
def Sm.bn1:List Sm→List Bz
 | []=>[]
 | x::l=>nms x.labels++Sm.bn x++Sm.bn1 l
end
theorem qA(l:List Bz):(nms l).length=(qd l 0).length:=qps _
mutual
theorem Sm.bn_length:∀s:Sm,s.bn.length=s.nb
 | .mk _ k _ _ _ _ d b=>by
  simp only[Sm.bn,Sm.nb];split
  ·rw[qpw,qpw,qA,De.bnl_length d,Sm.bnl_length b]
  ·split
   ·rw[qpw,qA,Sm.bnl_length b]
   ·exact Sm.bn1_length b
theorem De.bn_length:∀s:De,s.bn.length=s.nb
 | .mk k _ _ _ _ f b=>by
  simp only[De.bn,De.nb];split
  ·rw[qpw,qA,Sm.bn1_length b]
  ·rfl
theorem De.bnl_length:∀s:List De,(De.bnl s).length=De.nbl s
 | []=>rfl
 | x::l=>by simp only[De.bnl,De.nbl,qpw,De.bn_length x,De.bnl_length l]
theorem Sm.bnl_length:∀s:List Sm,(Sm.bnl s).length=Sm.nbl s
 | []=>rfl
 | x::l=>by simp only[Sm.bnl,Sm.nbl,qpw,Sm.bn_length x,Sm.bnl_length l]
theorem Sm.bn1_length:∀s:List Sm,(Sm.bn1 s).length=Sm.nb1 s
 | []=>rfl
 | x::l=>by simp only[Sm.bn1,Sm.nb1,qpw,qA,Sm.bn_length x,Sm.bn1_length l]
end
structure HInv(p:Pw)(Q:List Bz→p.H→Prop):Prop where
 e:∀{l h} x,Q l h→Q (l++[x]) (p.ent h l.length x)
 n:∀{l h} x sc tg,Q l h→Q l (p.nmH h x sc tg)
 c:∀{l h} x sc,Q l h→Q l (p.clH h x sc)
theorem qbE(p:Pw)(h:p.H)(s:Sco)(e:Bz×Nat):enters p h (s++[e])=p.ent (enters p h s) e.2 e.1:=by unfold enters;rw[qpX];rfl
theorem qb9(x:Bz)(l:List Bz):nms (l++[x])=if ((qd l 0).at x).isSome then nms l else nms l++[x]:=by
 unfold nms;rw[yU];split <;> simp
theorem kI(x:Bz)(n:Nat):∀(k:Nat) (l:List Bz),l.length≤k→((qd l n).at x).isSome=((qd l 0).at x).isSome
 | _,[],_=>rfl
 | 0,_::_,h=>by simp at h
 | k+1,y::l',h=>by
  obtain ⟨l,z,hl⟩:∃l z,y::l'=l++[z]:=⟨(y::l').dropLast,(y::l').getLast (by simp),(List.dropLast_concat_getLast _).symm⟩;rw[hl] at h ⊢;have hk:l.length≤k:=by simp at h;exact h
  rw[yU,yU,kI z n k l hk];have ih:=kI x n k l hk;split
  ·exact ih
  ·unfold Sco.at at *;rw[qrc,qrc];cases h1:List.find? (fun e=>decide (e.1=x)) (qd l n) <;> cases h2:List.find? (fun e=>decide (e.1=x)) (qd l 0) <;> simp[h1,h2] at ih ⊢;split <;> rfl
section
variable {p:Pw} {Q:List Bz→p.H→Prop} (i:HInv p Q)
include i
theorem HInv.enters{l:List Bz}{h:p.H}(hq:Q l h):∀(k:Nat) (a:List Bz),a.length≤k→Q (l++nms a) (enters p h (qd a l.length))
 | _,[],_=>by simpa[nms,qd,binds,Go.Proofs.YtbifpocccfkhhaaGreatDoor.enters] using hq
 | 0,_::_,h=>by simp at h
 | k+1,y::l',hk=>by
  obtain ⟨a,z,hl⟩:∃a z,y::l'=a++[z]:=⟨(y::l').dropLast,(y::l').getLast (by simp),(List.dropLast_concat_getLast _).symm⟩;rw[hl] at hk ⊢;have hk:a.length≤k:=by simp at hk;exact hk
  have ih:=HInv.enters hq k a hk;rw[yU,qb9,kI z l.length k a hk];split
  ·exact ih
  ·rw[qbE,←qpB];have h2:(l++nms a).length=l.length+(qd a l.length).length:=by rw[qpw,qA,qx a l.length 0]
   have h3:=i.e z ih;rw[h2] at h3;exact h3
theorem HInv.nmS{l:List Bz}{h:p.H}(sc:Scs)(tg:Bool)(x:Ex)(hq:Q l h):Q l (p.nmS sc tg h x):=by
 unfold Pw.nmS;split
 ·split
  ·exact hq
  ·exact i.n _ _ _ hq
 ·exact hq
theorem HInv.clS{l:List Bz}{h:p.H}(sc:Scs)(k:Int)(t:Bz)(hq:Q l h):Q l (p.clS sc k h t):=by
 unfold Pw.clS;split
 ·split
  ·exact hq
  ·exact i.c _ _ hq
 ·exact hq
mutual
theorem HInv.ex{l:List Bz}(sc:Scs)(tg:Bool):∀(x:Ex) {h:p.H},Q l h→Q l (x.hs p sc tg h)
 | .mk k o n m e t a,h,hq=>by simp only[Ex.hs];exact i.nmS _ _ _ (HInv.exl sc false a hq)
theorem HInv.exl{l:List Bz}(sc:Scs)(tg:Bool):∀(x:List Ex) {h:p.H},Q l h→Q l (Ex.hsl p sc tg h x)
 | [],h,hq=>hq
 | x::r,h,hq=>by simp only[Ex.hsl];exact HInv.exl sc tg r (HInv.ex sc tg x hq)
end
theorem HInv.el{l:List Bz}(sc:Scs):∀(x:List El) {h:p.H},Q l h→Q l (El.hsl p sc h x)
 | [],h,hq=>hq
 | x::r,h,hq=>HInv.el sc r (h:=Ex.hsl p sc false h x.exps) (i.exl sc false x.exps hq)
omit i in
theorem JL(l a:List Bz):(l++nms a).length=l.length+(qd a l.length).length:=by rw[qpw,qA,qx a l.length 0]
mutual
theorem HInv.sm(sc:Scs){l:List Bz}:∀(s:Sm) {h:p.H},Q l h→Q (l++s.bn) (s.hs p sc l.length h)
 | .mk lb k t g e el d b,h,hq=>by
  simp only[Sm.hs,Sm.bn];split
  ·have h1:=i.enters (i.exl sc true g hq) _ (qe d b) (qpo _);rw[←JL];have h2:=HInv.del (qd (qe d b) l.length::sc) sc d h1;have h3:=HInv.sml (qd (qe d b) l.length::sc) b h2;rw[qpw,De.bnl_length] at h3;rw[←qpB,←qpB];exact h3
  ·split
   ·have h1:=i.enters (i.exl sc true g hq) _ (qk b) (qpo _);rw[←JL];have h3:=HInv.sml (qd (qk b) l.length::sc) b h1;rw[←qpB];exact h3
   ·exact i.clS _ _ _ (HInv.sm1 sc b (i.el sc el (i.exl sc false e (i.exl sc true g hq))))
theorem HInv.de(own sc:Scs){l:List Bz}:∀(d:De) {h:p.H},Q l h→Q (l++d.bn) (d.hs p own sc l.length h)
 | .mk k o t nm e f b,h,hq=>by
  simp only[De.hs,De.bn];split
  ·have h1:=i.enters (i.exl own false e hq) _ (f.map Fo.name) (qpo _);rw[←JL,←qpB];exact HInv.sm1 _ b h1
  ·rw[qqu];exact i.exl _ _ e hq
theorem HInv.del(own sc:Scs){l:List Bz}:∀(d:List De) {h:p.H},Q l h→Q (l++De.bnl d) (De.hsl p own sc l.length h d)
 | [],h,hq=>by simpa[De.bnl,De.hsl] using hq
 | x::r,h,hq=>by
  have h1:=HInv.del own sc r (HInv.de own sc x hq);rw[qpw,De.bn_length,qpB] at h1;simp only[De.bnl,De.hsl];exact h1
theorem HInv.sml(sc:Scs){l:List Bz}:∀(s:List Sm) {h:p.H},Q l h→Q (l++Sm.bnl s) (Sm.hsl p sc l.length h s)
 | [],h,hq=>by simpa[Sm.bnl,Sm.hsl] using hq
 | x::r,h,hq=>by
  have h1:=HInv.sml sc r (HInv.sm sc x hq);rw[qpw,Sm.bn_length,qpB] at h1;simp only[Sm.bnl,Sm.hsl];exact h1
theorem HInv.sm1(sc:Scs){l:List Bz}:∀(s:List Sm) {h:p.H},Q l h→Q (l++Sm.bn1 s) (Sm.hs1 p sc l.length h s)
 | [],h,hq=>by simpa[Sm.bn1,Sm.hs1] using hq
 | x::r,h,hq=>by
  have h0:=i.enters hq _ x.labels (qpo _);have h1:=HInv.sm1 sc r (HInv.sm (qd x.labels l.length::sc) x h0);rw[qpw,Sm.bn_length,JL,qpB,qpB] at h1;simp only[Sm.bn1,Sm.hs1,qpB];exact h1
end
end
theorem HInv.cn{c:Cb}(ok:c.Ok):HInv c.toPw fun l h=>c.cn h l.length:=⟨fun x h=>by rw[qpw];exact ok.ce x h,fun x sc tg h=>ok.cm x sc tg h,fun x sc h=>ok.cc x sc h⟩
section
variable {c:Cb} (ok:c.Ok)
include ok
theorem qmT{n:Nat}{h:c.H}(sc:Scs)(tg:Bool)(x:List Ex)(k:c.cn h n):c.cn (Ex.hsl c.toPw sc tg h x) n:=by
 have:=(HInv.cn ok).exl (l:=List.replicate n ⟨⟨[]⟩⟩) sc tg x (h:=h) (by simpa using k);simpa using this
theorem qm7{n:Nat}{h:c.H}(a:List Bz)(k:c.cn h n):c.cn (enters c.toPw h (qd a n)) (n+(qd a n).length):=by
 have:=(HInv.cn ok).enters (l:=List.replicate n ⟨⟨[]⟩⟩) (h:=h) (by simpa using k) _ a (qpo _);simp only[JL] at this;simpa using this
theorem qmP{n:Nat}{h:c.H}(sc:Scs)(s:List Sm)(k:c.cn h n):c.cn (Sm.hsl c.toPw sc n h s) (n+Sm.nbl s):=by
 have:=(HInv.cn ok).sml (l:=List.replicate n ⟨⟨[]⟩⟩) sc s (h:=h) (by simpa using k);simp only[qpw,Sm.bnl_length] at this;simpa using this
end
def Gw(sz n0 w:Nat)(F D:Np)(xs:List V)(v:V)(S:St):Prop:=(xs=[]∧v=.sl true [])∨∃l wr,n0≤l∧Off w F D l∧v=.arr l 0 xs.length xs.length∧S[l]?=some (.arr xs sz wr)∧wr≤xs.length
theorem Gw.nil(sz n0 w:Nat)(F D:Np)(S:St):Gw sz n0 w F D [] (.sl true []) S:=.inl ⟨rfl,rfl⟩
theorem Gw.step{sz n0 w:Nat}{F D F' D':Np}{xs:List V}{v:V}{S U:St}(h:Gw sz n0 w F D xs v S)(s:Stp w F D S F' D' U):Gw sz n0 w F' D' xs v U:=by
 rcases h with h|⟨l,wr,h1,h2,h3,h4,h5⟩
 ·exact .inl h
 ·exact .inr ⟨l,wr,h1,h2.next (qpi.1 h4).1 s,h3,s.at h2 h4,h5⟩
theorem Gw.push{sz n0 w:Nat}{F D:Np}{xs:List V}{v:V}{S:St}(h:Gw sz n0 w F D xs v S)(os:List Ob):Gw sz n0 w F D xs v (S++os):=by
 rcases h with h|⟨l,wr,h1,h2,h3,h4,h5⟩
 ·exact .inl h
 ·exact .inr ⟨l,wr,h1,h2,h3,by rw[qpk (qpi.1 h4).1];exact h4,h5⟩
theorem Gw.app1{c:Cb}(ok:c.Ok){sz w n bytes:Nat}{hh:c.H}{F0 D0 F D:Np}{xs:List V}{y v:V}{S0 S:St}{b:Bool}(h:Gw sz S0.length w F D xs v S)(k:Wk c w n hh F D S)(s:Stp w F0 D0 S0 F D S)(hy:fits sz [y]=true)(hr:(xs.length+1) * bytes≤2 ^ 47):
  ∃v' S',Z7 S sz bytes v (.sl b [y])=some (v',S')∧Gw sz S0.length w F D (xs++[y]) v' S'∧Wk c w n hh F D S'∧Stp w F0 D0 S0 F D S':=by
 have hlen:=s.k.len;rcases h with ⟨rfl,rfl⟩|⟨l,wr,h1,h2,rfl,h3,h4⟩
 ·have hr':[y].length * bytes≤2 ^ 47:=by simpa using hr
  refine ⟨.arr S.length 0 1 1,S++[.arr [y] sz 1],?_,.inr ⟨S.length,1,hlen,k.out ok (qpo _),by simp,by simp,by simp⟩,k.push ok _,s.push _⟩;unfold Z7;rw[ZE];have hc:true=true∧fits sz [y]=true∧(([]:List V).all fun v=>v.size==sz)=true∧(([]:List V).length+[y].length) * bytes≤2 ^ 47:=⟨rfl,hy,rfl,hr⟩;show (if [y].isEmpty=true then _ else _)=_;rw[if_neg (by simp),if_pos hc];simp
 ·have hc:0=0∧xs.length=xs.length∧xs.length=xs.length∧sz=sz∧fits sz [y]=true∧(xs.length+[y].length) * bytes≤2 ^ 47:=⟨rfl,rfl,rfl,rfl,hy,hr⟩;have hlt:l<S.length:=(qpi.1 h3).1;refine ⟨.arr l 0 (xs.length+1) (xs.length+1),S.set l (.arr (xs++[y]) sz wr),?_,.inr ⟨l,wr,h1,h2,by simp,by rw[qpl hlt],by simp;omega⟩,k.set ok _ h2.1 h2.2.1 h2.2.2,s.set _ h1⟩;unfold Z7;rw[ZE];show (match S[l]? with|_=>_)=_;rw[h3];show (if _ then _ else _)=_;rw[if_pos hc];rfl
theorem Gw.fin{c:Cb}(ok:c.Ok){sz w n:Nat}{hh:c.H}{F0 D0 F D:Np}{xs:List V}{v:V}{S0 U:St}(h:Gw sz S0.length w F D xs v U)(k:Wk c w n hh F D U)(s:Stp w F0 D0 S0 F D U):
  ∃U',zy S0.length v U (.sl false (xs.map V.weak)) U'∧Wk c w n hh F D U'∧Stp w F0 D0 S0 F D U':=by
 rcases h with ⟨rfl,rfl⟩|⟨l,wr,h1,h2,rfl,h3,h4⟩
 ·exact ⟨U,zy.weak (r:=.sl true []),k,s⟩
 ·have g1:=zy.freeze (n:=S0.length) (l:=l) (off:=0) (len:=xs.length) (st:=xs.length) h3 h4 (by omega);simp only[List.drop_zero,qp9] at g1;have g2:zy S0.length (.sl false xs) (U.set l .dead) (V.sl false xs).weak (U.set l .dead):=zy.weak;simp only[V.weak,qX] at g2;exact ⟨_,g1.trans g2,k.set ok _ h2.1 h2.2.1 h2.2.2,s.set _ h1⟩
def Wd(c:Cb)(w n:Nat)(h':c.H)(F D:Np)(S:St)(x:V)(r:V)(U:St):Prop:=r=x∧∃F' D',Wk c w n h' F' D' U∧Stp w F D S F' D' U
theorem YF{c:Cb}(ok:c.Ok){sz w n:Nat}{hh:c.H}{F0 D0 F D:Np}{xs:List V}{v:V}{S0 U:St}{rs:List RV}{e:Env}(hv:rvs e U rs=some [v])(h:Gw sz S0.length w F D xs v U)(k:Wk c w n hh F D U)(s:Stp w F0 D0 S0 F D U){ys:List V}(hx:xs.map V.weak=ys):
  jR rs S0.length (fun r U=>Wd c w n hh F0 D0 S0 (.sl false ys) r U) .ret e U:=by
 obtain ⟨U',g,k',s'⟩:=h.fin ok k s;exact ⟨_,hv,_,U',g,by rw[hx],F,D,k',s'⟩
def Ww(c:Cb)(sz w n:Nat)(hh:c.H)(F D:Np)(S:St)(reg:Nat)(xs:List V)(e:Env)(U:St):Prop:=∃(gv:V) (F' D':Np),e.get reg=some gv∧Gw sz S.length w F' D' xs gv U∧Wk c w n hh F' D' U∧Stp w F D S F' D' U
def Lw(c:Cb)(sz w:Nat)(F D:Np)(S:St)(len:Nat)(n:Nat→Nat)(hh:Nat→c.H)(xs:Nat→List V)(env:Nat→V→Env)(j:Nat)(e:Env)(U:St):Prop:=∃(i:Nat) (gv:V) (F' D':Np),j=len - i∧i≤len∧Gw sz S.length w F' D' (xs i) gv U∧Wk c w (n i) (hh i) F' D' U∧Stp w F D S F' D' U∧e=env i gv
theorem Ex.fits1(x:Ex):fits 7 [x.v]=true:=by simp[fits]
def P97(c:Cb)(w:Nat)(x:Ex):Prop:=∀(n:Nat) (h:c.H) (F D:Np) (S:St) (v:V) (ts:List Sct) (tg:Bool),Wk c w n h F D S→ScR c.toPw (fun l=>l=w∨F l) S v ts→
 qt prog 97 [.ptr w 0 0 1,x.v,v,.bool tg] S (fun r U=>Wd c w n (Ex.hs c.toPw (Scx ts) tg h x) F D S (x.wr c.toPw (Scx ts) tg).v r U)
theorem jw(c:Cb)(ok:c.Ok)(w:Nat)(l:List Ex)(H:∀x,x∈l→P97 c w x)(hl:l.length≤4000)(n:Nat)(h:c.H)(F D:Np)(S:St)(v:V)(ts:List Sct)(tg:Bool)(hk:Wk c w n h F D S)(hsc:ScR c.toPw (fun l=>l=w∨F l) S v ts):
  qt prog 134 [.ptr w 0 0 1,.sl false (l.map Ex.v),v,.bool tg] S (fun r U=>Wd c w n (Ex.hsl c.toPw (Scx ts) tg h l) F D S (.sl false ((Ex.wrl c.toPw (Scx ts) tg l).map Ex.v)) r U):=by
 refine qt.ib func134 ok134 ?_;simp[c134];refine qO (Ww c 7 w n (Ex.hsl c.toPw (Scx ts) tg h l) F D S 9 ((Ex.wrl c.toPw (Scx ts) tg l).map Ex.v)) ?_ ?_
 ·refine qw (Lw c 7 w F D S l.length (fun _=>n) (fun i=>Ex.hsl c.toPw (Scx ts) tg h (l.take i)) (fun i=>(Ex.wrl c.toPw (Scx ts) tg (l.take i)).map Ex.v)
   (fun i gv=>[(14,.int .i64 i),(13,.int .i64 l.length),(12,.sl false (l.map Ex.v)),(9,gv),(0,.ptr w 0 0 1),(2,v),(3,.bool tg)])) l.length _ ?_ ⟨0,_,F,D,by simp,by omega,Gw.nil _ _ _ _ _ _,hk,Stp.refl _ _ _ _,rfl⟩ ?_
  ·exact Env.so (by simp)
  rintro j e U ⟨i,gv,F1,D1,rfl,hi,hg,hk1,hs1,rfl⟩;by_cases hlt:i<l.length
  ·simp[hlt,qks,qM,stS,qi,ldS];refine qj (H l[i] (qpz hlt) n _ F1 D1 _ v ts tg (hk1.push ok _) ((hsc.step hs1).push _)) ?_;rintro r U2 ⟨rfl,F2,D2,hk2,hs2⟩;have hg2:=(hg.push [Ob.arr [l[i].v] 7 1]).step hs2;have hs3:=hs1.trans hs2.ofPush;obtain ⟨v',U3,ha,hg3,hk3,hs4⟩:=hg2.app1 ok (bytes:=80) (b:=true) hk2 hs3 (Ex.fits1 (l[i].wr c.toPw (Scx ts) tg)) (by rw[qps,Ex.wrl_map,qps,qqA];omega)
   have hn:(Ex.wrl c.toPw (Scx ts) tg (l.take i)).map Ex.v++[(l[i].wr c.toPw (Scx ts) tg).v]=(Ex.wrl c.toPw (Scx ts) tg (l.take (i+1))).map Ex.v:=by
    rw[Ex.wrl_map,Ex.wrl_map,qpI,qpn hlt,qqd,qpH,qpH];rfl
   have hn2:Ex.hs c.toPw (Scx ts) tg (Ex.hsl c.toPw (Scx ts) tg h (l.take i)) l[i]=Ex.hsl c.toPw (Scx ts) tg h (l.take (i+1)):=by
    rw[qpI,qpn hlt,qqd,Ex.hsl_append];rfl
   rw[hn] at hg3;rw[hn2] at hk3;simp[Ex.fits1,ha,ze (n:=(i:Int)+1)];refine ⟨_,?_,_,?_,i+1,v',F2,D2,rfl,by omega,hg3,hk3,hs4,rfl⟩
   ·omega
   ·exact Env.so (by simp)
  ·have:i=l.length:=by omega
   subst this;simp only[qp9] at hg hk1;simp;exact ⟨gv,F1,D1,rfl,hg,hk1,hs1⟩
 rintro e U ⟨gv,F1,D1,g9,hg,hk1,hs1⟩;simp[g9];exact YF ok rfl hg hk1 hs1 (by rw[←qX,wEx])
theorem Ex.hs_eq(p:Pw)(sc:Scs)(tg:Bool)(h:p.H)(x:Ex):x.hs p sc tg h=p.nmS sc tg (Ex.hsl p sc false h x.args) (.mk x.kind x.op x.n x.man x.exp x.text (Ex.wrl p sc false x.args)):=by cases x;simp only[Ex.hs,Ex.kind,Ex.op,Ex.n,Ex.man,Ex.exp,Ex.text,Ex.args]
theorem Ex.wr_eq(p:Pw)(sc:Scs)(tg:Bool)(x:Ex):x.wr p sc tg=p.nmE sc tg (.mk x.kind x.op x.n x.man x.exp x.text (Ex.wrl p sc false x.args)):=by cases x;simp only[Ex.wr,Ex.kind,Ex.op,Ex.n,Ex.man,Ex.exp,Ex.text,Ex.args]
theorem exV(x:Ex)(l:List Ex):V.agg [.int .i64 x.kind,.int .i64 x.op,.int .i64 x.n,.int .i64 x.man,.int .i64 x.exp,.str x.text,.sl false (l.map Ex.v)]=(Ex.mk x.kind x.op x.n x.man x.exp x.text l).v:=by rw[Ex.v_eq];rfl
theorem Wk.call0{c:Cb}(ok:c.Ok){w n:Nat}{h h':c.H}{F D F' D':Np}{S U:St}(k:Wk c w n h F D S)(hI:c.I h' F' D' U)(hk:Kp F S U)(gF:grow S F F')(gD:grow S D D'):(U[w]?=some (wkr c n)∧¬ F' w∧¬ D' w)∧Stp w F D S F' D' U:=by
 have hlt:=(qpi.1 k.tw).1;exact ⟨⟨hk.at k.tw k.nF,fun hf=>(gF w hf).elim k.nF (by omega),fun hf=>(gD w hf).elim k.nD (by omega)⟩,hk.mono fun _ _ h=>.inr h,gF,gD⟩
theorem Wk.call{c:Cb}(ok:c.Ok){w n:Nat}{h h':c.H}{F D F' D':Np}{S U:St}(k:Wk c w n h F D S)(hc:c.cn h' n)(hI:c.I h' F' D' U)(hk:Kp F S U)(gF:grow S F F')(gD:grow S D D'):Wk c w n h' F' D' U∧Stp w F D S F' D' U:=
 have ⟨⟨a,b,d⟩,s⟩:=k.call0 ok hI hk gF gD
 ⟨⟨a,hI,b,d,hc⟩,s⟩
theorem qeh(c:Cb)(ok:c.Ok)(w:Nat):∀(m:Nat) (x:Ex),(Pa.ex x).size≤m→m≤4000→P97 c w x
 | 0,x,hx,_=>by have:=(Pa.ex x).size_pos;omega
 | m+1,x,hx,hm=>by
  intro n h F D S v ts tg hk hsc;have hsz:(Pa.ex x).size=1+qJ (x.args.map Pa.ex):=by rw[Pa.size_eq];rfl
  have hl:x.args.length≤4000:=by have:=Qc (x.args.map Pa.ex);rw[qps] at this;omega
  have IH:∀y,y∈x.args→P97 c w y:=fun y hy=>qeh c ok w m y (by
   obtain ⟨i,hi⟩:=qpZ (qp2 (f:=Pa.ex) hy);have:=yH hi;omega) (by omega)
  refine qt.ib func97 ok97 ?_;obtain ⟨S1,hS1⟩:∃S1:St,S1=S++[.arr [x.v] 7 1,.arr [.agg [.int .i64 0,.int .i64 0,.int .i64 0,.int .i64 0,.int .i64 0,.str ⟨⟨[]⟩⟩,.sl true []]] 7 1]:=⟨_,rfl⟩;have b0:S1[S.length]?=some (.arr [x.v] 7 1):=by rw[hS1,qpj (by omega)];simp
  have b1:S1[S.length+1]?=some (.arr [.agg [.int .i64 0,.int .i64 0,.int .i64 0,.int .i64 0,.int .i64 0,.str ⟨⟨[]⟩⟩,.sl true []]] 7 1):=by rw[hS1,qpj (by omega)];simp
  have l1:S1.length=S.length+2:=by rw[hS1];simp
  have k1:Wk c w n h F D S1:=by rw[hS1];exact hk.push ok _
  have s1:Stp w F D S F D S1:=by rw[hS1];exact (Stp.refl _ _ _ _).push _
  have o0:Off w F D S.length:=hk.out ok (qpo _);have o1:Off w F D (S.length+1):=hk.out ok (by omega);simp[c97,qM,ldS,qi];rw[←hS1];refine qj (jw c ok w x.args IH hl n h F D S1 v ts false k1 (hsc.step s1)) ?_;rintro r U ⟨rfl,F1,D1,k2,s2⟩;have c0:=s2.at o0 b0;have c1:=s2.at o1 b1;have p0:=o0.next (by omega) s2;have p1:=o1.next (by omega) s2;have s2':=s1.trans s2;generalize hl':Ex.wrl c.toPw (Scx ts) false x.args=l' at *;generalize hh':Ex.hsl c.toPw (Scx ts) false h x.args=h' at *;have hu:=s2.k.len;obtain ⟨y,hy⟩:∃y:Ex,y=.mk x.kind x.op x.n x.man x.exp x.text l':=⟨_,rfl⟩;have yk:y.kind=x.kind:=by rw[hy];rfl
  have yt:y.text=x.text:=by rw[hy];rfl
  have hst:Ob.arr [V.agg [.int .i64 x.kind,.int .i64 x.op,.int .i64 x.n,.int .i64 x.man,.int .i64 x.exp,.str x.text,.sl false (l'.map Ex.v)]] 7 1=.arr [y.v] 7 1:=by rw[exV,←hy]
  obtain ⟨U2,hU2⟩:∃U2:St,U2=U.set S.length (.arr [y.v] 7 1):=⟨_,rfl⟩;have d0:U2[S.length]?=some (.arr [y.v] 7 1):=by rw[hU2,qpl (by omega)]
  have d1:U2[S.length+1]?=some (.arr [.agg [.int .i64 0,.int .i64 0,.int .i64 0,.int .i64 0,.int .i64 0,.str ⟨⟨[]⟩⟩,.sl true []]] 7 1):=by rw[hU2,qpm (by omega)];exact c1
  have k3:Wk c w n h' F1 D1 U2:=by rw[hU2];exact k2.set ok _ p0.1 p0.2.1 p0.2.2
  have s3:Stp w F D S F1 D1 U2:=by rw[hU2];exact s2'.set _ (qpo _)
  have l2:U2.length=U.length:=by rw[hU2];simp
  simp[stS,ldS,c0,qc1,qi];rw[hst,←hU2];rw[Ex.wr_eq,Ex.hs_eq,hl',hh',←hy];have fin:∀(h2:c.H) (F2 D2:Np) (U3:St) (z:Ex),U3[S.length+1]?=some (.arr [z.v] 7 1)→Wk c w n h2 F2 D2 U3→Stp w F D S F2 D2 U3→∀e:Env,e.get 8=some (.ptr (S.length+1) 0 0 1)→jR [.cell 8 (some 7)] S.length (fun r U=>Wd c w n h2 F D S z.v r U) .ret e U3:=
   fun h2 F2 D2 U3 z hz hk3 hs3 e he=>qf (vs:=[z.v]) (by simp[rvs,he,ldS,hz]) ⟨rfl,F2,D2,hk3,hs3⟩
  have fin2:∀(h2:c.H) (F2 D2:Np) (U3:St) (z:Ex) (o:Ob),U3[S.length+1]?=some o→Off w F2 D2 (S.length+1)→Wk c w n h2 F2 D2 U3→Stp w F D S F2 D2 U3→∀e:Env,e.get 8=some (.ptr (S.length+1) 0 0 1)→jR [.cell 8 (some 7)] S.length (fun r U=>Wd c w n h2 F D S z.v r U) .ret e (U3.set (S.length+1) (.arr [z.v] 7 1)):=
   fun h2 F2 D2 U3 z o hz po hk3 hs3 e he=>fin h2 F2 D2 _ z (qpl (qpi.1 hz).1) (hk3.set ok _ po.1 po.2.1 po.2.2) (hs3.set _ (by omega)) e he
  by_cases hn:Ex.named x.kind=true
  case neg=>
   have e6:x.kind≠6:=fun hh=>hn (by rw[hh];rfl)
   have e7:x.kind≠7:=fun hh=>hn (by rw[hh];rfl)
   have e8:x.kind≠8:=fun hh=>hn (by rw[hh];rfl)
   simp[ldS,d0,yk,e6,e7,e8,stS,d1,qi];have e1:c.toPw.nmE (Scx ts) tg y=y:=by unfold Pw.nmE;rw[yk,if_neg hn]
   have e2:c.toPw.nmS (Scx ts) tg h' y=h':=by unfold Pw.nmS;rw[yk,if_neg hn]
   rw[e1,e2];exact fin2 _ F1 D1 _ _ _ d1 p1 k3 s3 _ rfl
  have hk3:x.kind=6∨x.kind=7∨x.kind=8:=by
   unfold Ex.named at hn;simpa[or_assoc] using hn
  have tw:=k3.tw;unfold wkr at tw
  cases hnm:c.nm with
  | none=>
   have hfn:c.fn=.nilfn:=by have:=ok.nm;rw[hnm] at this;exact this
   rw[hfn] at tw;have hsc3:=hsc.step s3;have hfind:=JU hsc3 x.text;have e2:c.toPw.nmS (Scx ts) tg h' y=h':=by unfold Pw.nmS;rw[hnm];simp
   have e1:c.toPw.nmE (Scx ts) tg y=.mk y.kind y.op y.n y.man y.exp (ZO c.toPw (Scx ts) y.text) y.args:=by unfold Pw.nmE;rw[yk,if_pos hn,hnm]
   rw[e1,e2,yt];have hat:=Jf ts x.text
   cases hf:fnd ts x.text with
   | none=>
    have hr:ZO c.toPw (Scx ts) x.text=x.text:=by unfold ZO;rw[hat,hf];rfl
    have hv:YD ts x.text=.nilp:=by simp[YD,hf]
    rw[hv] at hfind;have hy':Ex.mk y.kind y.op y.n y.man y.exp x.text y.args=y:=by rw[hy];rfl
    rw[hr,hy'];rcases hk3 with e|e| e
    all_goals
     simp[ldS,d0,yk,yt,e,zQ,tw,yl,eqV]
     refine qg hfind ?_
     simp[ldS,d0,yl,eqV,stS,d1,qi]
     exact fin2 _ F1 D1 _ _ _ d1 p1 k3 s3 _ rfl
   | some q=>
    have hr:ZO c.toPw (Scx ts) x.text=c.f q.1 x.text:=by unfold ZO;rw[hat,hf];rfl
    have hv:YD ts x.text=.ptr q.2 0 0 1:=by simp[YD,hf]
    rw[hv] at hfind;have hq:=hsc3.fnd_get hf;unfold plc at hq;obtain ⟨z,hz⟩:∃z:Ex,z=.mk y.kind y.op y.n y.man y.exp (c.f q.1 x.text) y.args:=⟨_,rfl⟩;have hzv:Ob.arr [V.agg [.int .i64 y.kind,.int .i64 y.op,.int .i64 y.n,.int .i64 y.man,.int .i64 y.exp,.str (c.f q.1 x.text),.sl false (y.args.map Ex.v)]] 7 1=.arr [z.v] 7 1:=by rw[hz,Ex.v_eq];rfl
    rw[hr,←hz];have hlt0:S.length<U2.length:=glt d0;rcases hk3 with e|e| e
    all_goals
     simp[ldS,d0,yk,yt,e,zQ,tw,yl,eqV]
     refine qg hfind ?_
     simp[ldS,d0,yl,eqV,zQ,hq,stS,qc1,qi]
     rw[hzv]
     have f0:(U2.set S.length (.arr [z.v] 7 1))[S.length]?=some (.arr [z.v] 7 1):=qpl hlt0
     have f1:(U2.set S.length (.arr [z.v] 7 1))[S.length+1]?=some (.arr [.agg [.int .i64 0,.int .i64 0,.int .i64 0,.int .i64 0,.int .i64 0,.str ⟨⟨[]⟩⟩,.sl true []]] 7 1):=by rw[qpm (by omega)];exact d1
     have k4:=k3.set ok (.arr [z.v] 7 1) p0.1 p0.2.1 p0.2.2
     have s4:=s3.set (.arr [z.v] 7 1) (qpo _)
     generalize U2.set S.length (.arr [z.v] 7 1)=U4 at f0 f1 k4 s4 ⊢
     simp[ldS,f0,stS,f1,qi]
     exact fin2 _ F1 D1 _ _ _ f1 p1 k4 s4 _ rfl
  | some g=>
   have hcb:=ok.nm;rw[hnm] at hcb;obtain ⟨kf,cs,hfn,hsp⟩:=hcb;rw[hfn] at tw;have e2:c.toPw.nmS (Scx ts) tg h' y=c.nmH h' y (Scx ts) tg:=by unfold Pw.nmS;rw[yk,if_pos hn,hnm]
   have e1:c.toPw.nmE (Scx ts) tg y=g y (Scx ts) tg:=by unfold Pw.nmE;rw[yk,if_pos hn,hnm]
   rw[e1,e2];have hsp3:=hsp U2 y v ts tg w h' F1 D1 (hsc.step s3) k3.st;obtain ⟨Fi,Di,Ui,hi⟩:=ok.real k3.st (c.nmH h' y (Scx ts) tg);rcases hk3 with e|e| e
   all_goals
    simp[ldS,d0,yk,e,zQ,tw,yl,eqV]
    refine Qp hsp3 ⟨_,Ui,rfl,Fi,Di,hi⟩ ?_
    rintro r U3 ⟨rfl,F2,D2,q1,q2,q3,q4⟩
    obtain ⟨k4,s4⟩:=k3.call ok (ok.cm _ _ _ k3.cn) q1 q2 q3 q4
    have f1:=s4.at p1 d1
    have p1':=p1.next (by omega) s4
    simp[stS,f1,qi,Yc,Qe]
    exact fin2 _ F2 D2 _ _ _ f1 p1' k4 (s3.trans s4) _ rfl
def Jj(p:Pw)(sc:Scs)(l:List Bz):List Bz:=l.map (ZO p sc)
def El.wrl(p:Pw)(sc:Scs)(l:List El):List El:=l.map (El.wr p sc)
theorem qeq(c:Cb)(ok:c.Ok)(w:Nat)(l:List Bz)(hl:l.length≤4000)(n:Nat)(h:c.H)(F D:Np)(S:St)(v:V)(ts:List Sct)(hin:∀x,x∈l→((Scx ts).at x).isSome=true)(hk:Wk c w n h F D S)(hsc:ScR c.toPw (fun l=>l=w∨F l) S v ts):
  qt prog 218 [.sl false (l.map .str),v] S (fun r U=>Wd c w n h F D S (.sl false ((Jj c.toPw (Scx ts) l).map .str)) r U):=by
 refine qt.ib func218 ok218 ?_;simp[c218];refine qO (Ww c 1 w n h F D S 5 ((Jj c.toPw (Scx ts) l).map .str)) ?_ ?_
 ·refine qw (Lw c 1 w F D S l.length (fun _=>n) (fun _=>h) (fun i=>(Jj c.toPw (Scx ts) (l.take i)).map .str)
   (fun i gv=>[(10,.int .i64 i),(9,.int .i64 l.length),(8,.sl false (l.map .str)),(5,gv),(1,v)])) l.length _ ?_ ⟨0,_,F,D,by simp,by omega,Gw.nil _ _ _ _ _ _,hk,Stp.refl _ _ _ _,rfl⟩ ?_
  ·exact Env.so (by simp)
  rintro j e U ⟨i,gv,F1,D1,rfl,hi,hg,hk1,hs1,rfl⟩;by_cases hlt:i<l.length
  ·have hsc1:=hsc.step hs1;have hfind:=JU hsc1 l[i];have hat:=Jf ts l[i]
   obtain ⟨q,hq⟩:∃q,fnd ts l[i]=some q:=by
    have:=hin l[i] (qpz hlt);rw[hat] at this
    cases hf:fnd ts l[i] with
    | none=>rw[hf] at this;cases this
    | some q=>exact ⟨q,rfl⟩
   have hv:YD ts l[i]=.ptr q.2 0 0 1:=by simp[YD,hq]
   have hr:ZO c.toPw (Scx ts) l[i]=c.f q.1 l[i]:=by unfold ZO;rw[hat,hq];rfl
   rw[hv] at hfind;have hg1:=hsc1.fnd_get hq;unfold plc at hg1;simp[hlt,Zx];refine qg hfind ?_;obtain ⟨v',U3,ha,hg3,hk3,hs4⟩:=hg.app1 ok (bytes:=16) (b:=true) (y:=.str (c.f q.1 l[i])) hk1 hs1 (by rfl) (by simp only[Jj,El.wrl,qps,qqA];omega)
   have hn:(Jj c.toPw (Scx ts) (l.take i)).map V.str++[.str (c.f q.1 l[i])]=(Jj c.toPw (Scx ts) (l.take (i+1))).map V.str:=by
    unfold Jj;rw[qpI,qpn hlt,qqd,qpH,qpH,←hr];rfl
   rw[hn] at hg3;have hfs:fits 1 [V.str (c.f q.1 l[i])]=true:=rfl;simp[zQ,ldS,hg1,hfs,ha,ze (n:=(i:Int)+1)];refine ⟨_,?_,_,?_,i+1,v',F1,D1,rfl,by omega,hg3,hk3,hs4,rfl⟩
   ·omega
   ·exact Env.so (by simp)
  ·have:i=l.length:=by omega
   subst this;simp only[qp9] at hg hk1;simp;exact ⟨gv,F1,D1,rfl,hg,hk1,hs1⟩
 rintro e U ⟨gv,F1,D1,g5,hg,hk1,hs1⟩;simp[g5];exact YF ok rfl hg hk1 hs1 (by rw[←qX,qgE])
theorem El.fits1(x:El):fits 2 [x.v]=true:=by simp[fits]
theorem El.hsl_append(p:Pw)(sc:Scs)(h:p.H)(l m:List El):El.hsl p sc h (l++m)=El.hsl p sc (El.hsl p sc h l) m:=by unfold El.hsl;rw[qpX]
theorem JZ(c:Cb)(ok:c.Ok)(w:Nat)(l:List Ex)(hl:qJ (l.map Pa.ex)≤4000)(n:Nat)(h:c.H)(F D:Np)(S:St)(v:V)(ts:List Sct)(tg:Bool)(hk:Wk c w n h F D S)(hsc:ScR c.toPw (fun l=>l=w∨F l) S v ts):
  qt prog 134 [.ptr w 0 0 1,.sl false (l.map Ex.v),v,.bool tg] S (fun r U=>Wd c w n (Ex.hsl c.toPw (Scx ts) tg h l) F D S (.sl false ((Ex.wrl c.toPw (Scx ts) tg l).map Ex.v)) r U):=
 jw c ok w l (fun x hx=>qeh c ok w 4000 x (by
  obtain ⟨i,hi⟩:=qpZ (qp2 (f:=Pa.ex) hx);have:=yH hi;omega) (by omega)) (by have:=Qc (l.map Pa.ex);rw[qps] at this;omega) n h F D S v ts tg hk hsc
theorem Wd.some{c:Cb}(ok:c.Ok){w n n':Nat}{h:c.H}{F D:Np}{S:St}(hk:Wk c w n h F D S)(h':c.H)(hc:c.cn h' n')(x:V):∃r U,Wd c w n' h' F D S x r U:=by
 obtain ⟨F',D',U,q1,q2,q3,q4⟩:=ok.real hk.st h';obtain ⟨⟨a,b,d⟩,s⟩:=hk.call0 ok q1 q2 q3 q4;have hlt:=(qpi.1 a).1;refine ⟨x,U.set w (wkr c n'),rfl,F',D',⟨qpl hlt,ok.fr (M:=fun l=>l=w) q1 ((Kp.refl _ _).set _ (.inl rfl)) (fun l hl _=>by rw[hl];exact ⟨b,d⟩),b,d,hc⟩,s.k.set _ (.inl (.inl rfl)),s.gF,s.gD⟩
theorem qjw(c:Cb)(ok:c.Ok)(w:Nat)(l:List El)(hl:qJ (l.map Pa.el)≤4000)(n:Nat)(h:c.H)(F D:Np)(S:St)(v:V)(ts:List Sct)(hk:Wk c w n h F D S)(hsc:ScR c.toPw (fun l=>l=w∨F l) S v ts):
  qt prog 221 [.ptr w 0 0 1,.sl false (l.map El.v),v] S (fun r U=>Wd c w n (El.hsl c.toPw (Scx ts) h l) F D S (.sl false ((El.wrl c.toPw (Scx ts) l).map El.v)) r U):=by
 have hlen:l.length≤4000:=by have:=Qc (l.map Pa.el);rw[qps] at this;omega
 refine qt.ib func221 ok221 ?_;simp[c221];refine qO (Ww c 2 w n (El.hsl c.toPw (Scx ts) h l) F D S 7 ((El.wrl c.toPw (Scx ts) l).map El.v)) ?_ ?_
 ·refine qw (Lw c 2 w F D S l.length (fun _=>n) (fun i=>El.hsl c.toPw (Scx ts) h (l.take i)) (fun i=>(El.wrl c.toPw (Scx ts) (l.take i)).map El.v)
   (fun i gv=>[(12,.int .i64 i),(11,.int .i64 l.length),(10,.sl false (l.map El.v)),(7,gv),(0,.ptr w 0 0 1),(2,v)])) l.length _ ?_ ⟨0,_,F,D,by simp,by omega,Gw.nil _ _ _ _ _ _,hk,Stp.refl _ _ _ _,rfl⟩ ?_
  ·exact Env.so (by simp)
  rintro j e U ⟨i,gv,F1,D1,rfl,hi,hg,hk1,hs1,rfl⟩;by_cases hlt:i<l.length
  ·have hse:qJ (l[i].exps.map Pa.ex)≤4000:=by
    have h1:=yH (l:=l.map Pa.el) (i:=i) (q:=Pa.el l[i]) (by simp[hlt]);have h2:(Pa.el l[i]).size=1+qJ (l[i].exps.map Pa.ex):=by rw[Pa.size_eq];rfl
    omega
   obtain ⟨U1,hU1⟩:∃U1:St,U1=U++[.arr [l[i].v] 2 1]:=⟨_,rfl⟩;have hk2:Wk c w n (El.hsl c.toPw (Scx ts) h (l.take i)) F1 D1 U1:=by rw[hU1];exact hk1.push ok _
   have hs2:Stp w F D S F1 D1 U1:=by rw[hU1];exact hs1.push _
   have hg2:Gw 2 S.length w F1 D1 ((El.wrl c.toPw (Scx ts) (l.take i)).map El.v) gv U1:=by rw[hU1];exact hg.push _
   have b0:U1[U.length]?=some (.arr [l[i].v] 2 1):=by rw[hU1];simp
   have o0:Off w F1 D1 U.length:=hk1.out ok (qpo _);have hlU:U1.length=U.length+1:=by rw[hU1];simp
   have hcall:=JZ c ok w l[i].exps hse n _ F1 D1 U1 v ts false hk2 (hsc.step hs2);simp[hlt,qnG,qM,stS,qi,ldS];rw[←hU1];refine Qp hcall (Wd.some ok hk2 _ (qmT ok _ _ _ hk2.cn) _) ?_;rintro r U2 ⟨rfl,F2,D2,hk3,hs3⟩;have b1:=hs3.at o0 b0;have hg3:=hg2.step hs3;have hs4:=hs2.trans hs3;obtain ⟨v',U3,ha,hg4,hk4,hs5⟩:=hg3.app1 ok (bytes:=32) (b:=true) hk3 hs4 (El.fits1 (l[i].wr c.toPw (Scx ts))) (by simp only[Jj,El.wrl,qps,qqA];omega)
   have hn:(El.wrl c.toPw (Scx ts) (l.take i)).map El.v++[(l[i].wr c.toPw (Scx ts)).v]=(El.wrl c.toPw (Scx ts) (l.take (i+1))).map El.v:=by
    unfold El.wrl;rw[qpI,qpn hlt,qqd,qpH,qpH];rfl
   have hn2:Ex.hsl c.toPw (Scx ts) false (El.hsl c.toPw (Scx ts) h (l.take i)) l[i].exps=El.hsl c.toPw (Scx ts) h (l.take (i+1)):=by
    rw[qpI,qpn hlt,qqd,El.hsl_append];rfl
   rw[hn] at hg4;rw[hn2] at hk4;have hb:qY (.agg [.int .i64 0,.sl true []]) [(0,1,.int .i64 l[i].kind),(1,1,.sl false ((Ex.wrl c.toPw (Scx ts) false l[i].exps).map Ex.v))]=some (l[i].wr c.toPw (Scx ts)).v:=by simp[qY,qi];rfl
   simp[qF,hb,El.fits1,ha,Yc,Qe,QN,ldS,b0,b1,ze (n:=(i:Int)+1)];refine ⟨_,?_,_,?_,i+1,v',F2,D2,rfl,by omega,hg4,hk4,hs5,rfl⟩
   ·omega
   ·exact Env.so (by simp)
  ·have:i=l.length:=by omega
   subst this;simp only[qp9] at hg hk1;simp;exact ⟨gv,F1,D1,rfl,hg,hk1,hs1⟩
 rintro e U ⟨gv,F1,D1,g5,hg,hk1,hs1⟩;simp[g5];exact YF ok rfl hg hk1 hs1 (by rw[←qX,wEl])
theorem qfg(s:Sco)(e:Bz×Nat)(y:Bz)(h:(s.at y).isSome=true):(Sco.at (s++[e]) y).isSome=true:=by
 unfold Sco.at at *;rw[qrc]
 cases hf:s.find? fun p=>decide (p.1=y) with
 | none=>rw[hf] at h;simp at h
 | some p=>simp
theorem qlx(s:Sco)(x:Bz)(n:Nat):(Sco.at (s++[(x,n)]) x).isSome=true:=by
 unfold Sco.at;rw[qrc]
 cases hf:s.find? fun p=>decide (p.1=x) with
 | none=>simp
 | some p=>simp
theorem Zk(y:Bz):∀(l:List Bz) (s:Sco) (n:Nat),(s.at y).isSome=true→((binds l s n).at y).isSome=true
 | [],_,_,h=>h
 | x::l,s,n,h=>by
  simp only[binds];split
  ·exact Zk y l s n h
  ·exact Zk y l _ _ (qfg s _ y h)
theorem Jr(y:Bz):∀(l:List Bz) (s:Sco) (n:Nat),y∈l→((binds l s n).at y).isSome=true
 | x::l,s,n,h=>by
  simp only[binds];rcases qpJ.1 h with rfl| h
  ·split
   ·rename_i hs;exact Zk y l s n hs
   ·exact Zk y l _ _ (qlx s y n)
  ·split
   ·exact Jr y l s n h
   ·exact Jr y l _ _ h
def qd3(sc:Scs)(l:List Bz):Prop:=∀x,x∈l→(sc.at x).isSome=true
theorem zz(l:List Bz)(n:Nat)(sc:Scs):qd3 (qd l n::sc) l:=fun x hx=>by
 have:=Jr x l [] n hx;unfold Scs.at;unfold qd
 cases h:Sco.at (binds l [] n) x with
 | none=>rw[h] at this;cases this
 | some k=>rfl
theorem qd3.sub{sc:Scs}{l m:List Bz}(h:qd3 sc l)(hm:∀x,x∈m→x∈l):qd3 sc m:=fun x hx=>h x (hm x hx)
theorem qdB{l:List Sm}{s:Sm}(hs:s∈l):∀x,x∈s.labels→x∈qk l:=fun x hx=>qqG.2 ⟨s,hs,hx⟩
theorem Sm.fits1(x:Sm):fits 8 [x.v]=true:=by simp[fits]
theorem De.fits1(x:De):fits 7 [x.v]=true:=by simp[fits]
def qk4(c:Cb)(w:Nat)(s:Sm):Prop:=∀(n:Nat) (h:c.H) (F D:Np) (S:St) (v:V) (ts:List Sct),Wk c w n h F D S→ScR c.toPw (fun l=>l=w∨F l) S v ts→qd3 (Scx ts) s.labels→n+s.nb≤c.lim→
 qt prog 186 [.ptr w 0 0 1,s.v,v] S (fun r U=>Wd c w (n+s.nb) (s.hs c.toPw (Scx ts) n h) F D S (s.wr c.toPw (Scx ts) n).v r U)
theorem ScR.weak{p:Pw}{X:Np}{S:St}{v:V}{ts:List Sct}(h:ScR p X S v ts):v.weak=v:=by
 cases ts with
 | nil=>have h':v=.nilp:=h;rw[h'];rfl
 | cons t r=>obtain ⟨l,_,_,_,_,_,rfl,_⟩:=h;rfl
theorem wrl_len(p:Pw)(sc:Scs):∀(m:List Sm) (n:Nat),(Sm.wrl p sc n m).length=m.length
 | [],_=>rfl
 | x::m,n=>by simp only[Sm.wrl,qpF,wrl_len p sc m]
theorem Yt(c:Cb)(ok:c.Ok)(w:Nat)(l:List Sm)(b:Bool)(H:∀s,s∈l→qk4 c w s)(hl:l.length≤4000)(n:Nat)(h:c.H)(F D:Np)(S:St)(v:V)(ts:List Sct)(hk:Wk c w n h F D S)(hsc:ScR c.toPw (fun l=>l=w∨F l) S v ts)
  (hin:qd3 (Scx ts) (qk l)) (hn:n+Sm.nbl l≤c.lim):
  qt prog 156 [.ptr w 0 0 1,.sl b (l.map Sm.v),v] S (fun r U=>Wd c w (n+Sm.nbl l) (Sm.hsl c.toPw (Scx ts) n h l) F D S (.sl false ((Sm.wrl c.toPw (Scx ts) n l).map Sm.v)) r U):=by
 refine qt.weakA ?_;simp only[V.weakL,V.weak,wSm,hsc.weak];refine qt.ib func156 ok156 ?_;simp[c156];refine qO (Ww c 8 w (n+Sm.nbl l) (Sm.hsl c.toPw (Scx ts) n h l) F D S 7 ((Sm.wrl c.toPw (Scx ts) n l).map Sm.v)) ?_ ?_
 ·refine qw (Lw c 8 w F D S l.length (fun i=>n+Sm.nbl (l.take i)) (fun i=>Sm.hsl c.toPw (Scx ts) n h (l.take i)) (fun i=>(Sm.wrl c.toPw (Scx ts) n (l.take i)).map Sm.v)
   (fun i gv=>[(12,.int .i64 i),(11,.int .i64 l.length),(10,.sl false (l.map Sm.v)),(7,gv),(0,.ptr w 0 0 1),(2,v)])) l.length _ ?_ ⟨0,_,F,D,by simp,by omega,Gw.nil _ _ _ _ _ _,hk,Stp.refl _ _ _ _,rfl⟩ ?_
  ·exact Env.so (by simp)
  rintro j e U ⟨i,gv,F1,D1,rfl,hi,hg,hk1,hs1,rfl⟩;dsimp only at hg hk1;by_cases hlt:i<l.length
  ·have ht:l.take (i+1)=l.take i++[l[i]]:=by rw[qpI,qpn hlt];rfl
   have hnb:Sm.nbl (l.take (i+1))=Sm.nbl (l.take i)+l[i].nb:=by rw[ht,Sm.nbl_append];simp[Sm.nbl]
   have hnl:Sm.nbl (l.take (i+1))≤Sm.nbl l:=by
    have:Sm.nbl l=Sm.nbl (l.take (i+1))+Sm.nbl (l.drop (i+1)):=by rw[←Sm.nbl_append,qqy]
    omega
   simp[hlt,qiH,qM,stS,qi,ldS];refine qj (H l[i] (qpz hlt) _ _ F1 D1 _ v ts (hk1.push ok _) ((hsc.step hs1).push _) (hin.sub (qdB (qpz hlt))) (by omega)) ?_;rintro r U2 ⟨rfl,F2,D2,hk2,hs2⟩;have hg2:=(hg.push [Ob.arr [l[i].v] 8 1]).step hs2;have hs3:=hs1.trans hs2.ofPush
   obtain ⟨v',U3,ha,hg3,hk3,hs4⟩:=hg2.app1 ok (bytes:=168) (b:=true) hk2 hs3 (Sm.fits1 (l[i].wr c.toPw (Scx ts) (n+Sm.nbl (l.take i)))) (by
    rw[qps,wrl_len,qqA];omega)
   have hn1:(Sm.wrl c.toPw (Scx ts) n (l.take i)).map Sm.v++[(l[i].wr c.toPw (Scx ts) (n+Sm.nbl (l.take i))).v]=(Sm.wrl c.toPw (Scx ts) n (l.take (i+1))).map Sm.v:=by
    rw[ht,Sm.wrl_append,qpH];rfl
   have hn2:Sm.hs c.toPw (Scx ts) (n+Sm.nbl (l.take i)) (Sm.hsl c.toPw (Scx ts) n h (l.take i)) l[i]=Sm.hsl c.toPw (Scx ts) n h (l.take (i+1)):=by
    rw[ht,Sm.hsl_append];rfl
   rw[hn1] at hg3;rw[hn2,qp3,←hnb] at hk3;simp[Sm.fits1,ha,ze (n:=(i:Int)+1)];refine ⟨_,?_,_,?_,i+1,v',F2,D2,rfl,by omega,hg3,hk3,hs4,rfl⟩
   ·omega
   ·exact Env.so (by simp)
  ·have:i=l.length:=by omega
   subst this;simp only[qp9] at hg hk1;simp;exact ⟨gv,F1,D1,rfl,hg,hk1,hs1⟩
 rintro e U ⟨gv,F1,D1,g9,hg,hk1,hs1⟩;simp[g9];exact YF ok rfl hg hk1 hs1 (by rw[←qX,wSm])
theorem Sco.len_of{t:Sct}{s:Sco}(h:t.sco=s):t.length=s.length:=by rw[←h];exact (qps _).symm
theorem wr1_len(p:Pw)(sc:Scs):∀(m:List Sm) (n:Nat),(Sm.wr1 p sc n m).length=m.length
 | [],_=>rfl
 | x::m,n=>by simp only[Sm.wr1,qpF,wr1_len p sc m]
theorem Sm.wr1_append(p:Pw)(sc:Scs):∀(l m:List Sm) (n:Nat),Sm.wr1 p sc n (l++m)=Sm.wr1 p sc n l++Sm.wr1 p sc (n+Sm.nb1 l) m
 | [],m,n=>by simp[Sm.wr1,Sm.nb1]
 | x::l,m,n=>by
  have:=qx x.labels n 0;simp only[qpO,Sm.wr1,Sm.nb1,Sm.wr1_append p sc l m,this,qp3]
theorem Sm.hs1_append(p:Pw)(sc:Scs):∀(l m:List Sm) (n:Nat) (h:p.H),Sm.hs1 p sc n h (l++m)=Sm.hs1 p sc (n+Sm.nb1 l) (Sm.hs1 p sc n h l) m
 | [],m,n,h=>by simp[Sm.hs1,Sm.nb1]
 | x::l,m,n,h=>by
  have:=qx x.labels n 0;simp only[qpO,Sm.hs1,Sm.nb1,Sm.hs1_append p sc l m,this,qp3]
theorem Yp(c:Cb)(ok:c.Ok)(w:Nat)(l:List Sm)(b:Bool)(H:∀s,s∈l→qk4 c w s)(hl:l.length≤4000)(hls:∀s,s∈l→s.ok)(n:Nat)(h:c.H)(F D:Np)(S:St)(v:V)(ts:List Sct)(hk:Wk c w n h F D S)(hsc:ScR c.toPw (fun l=>l=w∨F l) S v ts)
  (hn:n+Sm.nb1 l≤c.lim):
  qt prog 111 [.ptr w 0 0 1,.sl b (l.map Sm.v),v] S (fun r U=>Wd c w (n+Sm.nb1 l) (Sm.hs1 c.toPw (Scx ts) n h l) F D S (.sl false ((Sm.wr1 c.toPw (Scx ts) n l).map Sm.v)) r U):=by
 refine qt.weakA ?_;simp only[V.weakL,V.weak,wSm,hsc.weak];refine qt.ib func111 ok111 ?_;simp[c111];refine qO (Ww c 8 w (n+Sm.nb1 l) (Sm.hs1 c.toPw (Scx ts) n h l) F D S 7 ((Sm.wr1 c.toPw (Scx ts) n l).map Sm.v)) ?_ ?_
 ·refine qw (Lw c 8 w F D S l.length (fun i=>n+Sm.nb1 (l.take i)) (fun i=>Sm.hs1 c.toPw (Scx ts) n h (l.take i)) (fun i=>(Sm.wr1 c.toPw (Scx ts) n (l.take i)).map Sm.v)
   (fun i gv=>[(13,.int .i64 i),(12,.int .i64 l.length),(11,.sl false (l.map Sm.v)),(7,gv),(0,.ptr w 0 0 1),(2,v)])) l.length _ ?_ ⟨0,_,F,D,by simp,by omega,Gw.nil _ _ _ _ _ _,hk,Stp.refl _ _ _ _,rfl⟩ ?_
  ·exact Env.so (by simp)
  rintro j e U ⟨i,gv,F1,D1,rfl,hi,hg,hk1,hs1,rfl⟩;dsimp only at hg hk1;by_cases hlt:i<l.length
  ·have ht:l.take (i+1)=l.take i++[l[i]]:=by rw[qpI,qpn hlt];rfl
   have hnb:Sm.nb1 (l.take (i+1))=Sm.nb1 (l.take i)+((qd l[i].labels 0).length+l[i].nb):=by rw[ht,Sm.nb1_append];simp[Sm.nb1]
   have hnl:Sm.nb1 (l.take (i+1))≤Sm.nb1 l:=by
    have:Sm.nb1 l=Sm.nb1 (l.take (i+1))+Sm.nb1 (l.drop (i+1)):=by rw[←Sm.nb1_append,qqy]
    omega
   have hbl:=qx l[i].labels (n+Sm.nb1 (l.take i)) 0;have hlab:qk [l[i]]=l[i].labels:=by simp[qk]
   have hoks:Sm.okL [l[i]]:=⟨hls _ (qpz hlt),trivial⟩;have hy:=J8 [l[i]] (by unfold B50;simp) hoks (U.length+1);rw[hlab] at hy;simp[hlt,qiH,qM,stS,qi,ldS,Sm.fits1];obtain ⟨U1,hU1⟩:∃U1:St,U1=U++[.arr [l[i].v] 8 1]:=⟨_,rfl⟩;rw[←hU1];have lU1:U1.length=U.length+1:=by rw[hU1];simp
   have q1:=qbe [l[i]] true U1;simp only[qpv,qqw] at q1 hy;refine qj q1 ?_;rintro r U2 ⟨rfl,hU2⟩;have hk2:Wk c w (n+Sm.nb1 (l.take i)) (Sm.hs1 c.toPw (Scx ts) n h (l.take i)) F1 D1 U2:=by rw[hU2,hU1];exact (hk1.push ok _).push ok _
   have hs2:Stp w F D S F1 D1 U2:=by rw[hU2,hU1];exact (hs1.push _).push _
   have hg2:Gw 8 S.length w F1 D1 ((Sm.wr1 c.toPw (Scx ts) n (l.take i)).map Sm.v) gv U2:=by rw[hU2,hU1];exact (hg.push _).push _
   have hc2:U2[U.length+1]?=some (.arr [.sl false [l[i].v]] 1 1):=by rw[hU2,qpj (by omega)];simp[lU1]
   have lU2:U2.length=U.length+2:=by rw[hU2];simp[lU1]
   simp;rw[lU1];refine qj (jZ c ok w _ _ F1 D1 v ts l[i].labels 187 [.ptr (U.length+1) 0 0 1] (U.length+1) _ hy (by simp) U2 hk2 (fun _=>False) (fun _ h=>h.elim) ((hsc.step hs2).sub fun l hh=>hh.imp id fun a=>a.resolve_right id) hc2 (hk1.out ok (by omega)) (by omega)) ?_;rintro r U3 ⟨t,F2,D2,hts,hk3,hs3,hsc3⟩;have hsc3:=hsc3.sub (X':=fun l=>l=w∨F2 l) fun l hh=>hh.imp id .inl
   have htl:=Sco.len_of hts;have hscx:Scx (t::ts)=qd l[i].labels (n+Sm.nb1 (l.take i))::Scx ts:=by simp only[Scx,qpv,hts]
   simp;have q2:=Yt c ok w [l[i]] true (fun s hs=>by simp at hs;subst hs;exact H _ (qpz hlt)) (by simp) _ _ F2 D2 U3 r (t::ts) hk3 hsc3 (by rw[hscx,hlab];exact zz _ _ _) (by simp only[Sm.nbl];omega);simp only[qpv,qqw,hscx,Sm.nbl,Sm.hsl,Sm.wrl,qri] at q2;refine qj q2 ?_;rintro r U4 ⟨rfl,F3,D3,hk4,hs4⟩;have hs34:=hs3.trans hs4;have hg4:=hg2.step hs34;have hs5:=hs2.trans hs34
   obtain ⟨v',U5,ha,hg5,hk5,hs6⟩:=hg4.app1 ok (bytes:=168) (b:=false) hk4 hs5 (Sm.fits1 (l[i].wr c.toPw (qd l[i].labels (n+Sm.nb1 (l.take i))::Scx ts) (n+Sm.nb1 (l.take i)+t.length))) (by
    rw[qps,wr1_len,qqA];omega)
   have hn1:(Sm.wr1 c.toPw (Scx ts) n (l.take i)).map Sm.v++[(l[i].wr c.toPw (qd l[i].labels (n+Sm.nb1 (l.take i))::Scx ts) (n+Sm.nb1 (l.take i)+t.length)).v]=(Sm.wr1 c.toPw (Scx ts) n (l.take (i+1))).map Sm.v:=by
    rw[ht,Sm.wr1_append,qpH,htl];rfl
   have hn2:Sm.hs c.toPw (qd l[i].labels (n+Sm.nb1 (l.take i))::Scx ts) (n+Sm.nb1 (l.take i)+t.length) (enters c.toPw (Sm.hs1 c.toPw (Scx ts) n h (l.take i)) (qd l[i].labels (n+Sm.nb1 (l.take i)))) l[i]=Sm.hs1 c.toPw (Scx ts) n h (l.take (i+1)):=by
    rw[ht,Sm.hs1_append,htl];rfl
   rw[hn1] at hg5;rw[hn2,show n+Sm.nb1 (l.take i)+t.length+l[i].nb=n+Sm.nb1 (l.take (i+1)) by omega] at hk5;simp[ha,ze (n:=(i:Int)+1)];refine ⟨_,?_,_,?_,i+1,v',F3,D3,rfl,by omega,hg5,hk5,hs6,rfl⟩
   ·omega
   ·exact Env.so (by simp)
  ·have:i=l.length:=by omega
   subst this;simp only[qp9] at hg hk1;simp;exact ⟨gv,F1,D1,rfl,hg,hk1,hs1⟩
 rintro e U ⟨gv,F1,D1,g9,hg,hk1,hs1⟩;simp[g9];exact YF ok rfl hg hk1 hs1 (by rw[←qX,wSm])
def ql2(l:List Fo)(S:St)(r:V)(U:St):Prop:=(l=[]∧(∃b,r=.sl b [])∧U=S)∨(l≠[]∧r=.arr S.length 0 l.length l.length∧U=S++[.arr (l.map Fo.v) 4 l.length])
theorem qjI(l:List Fo):fits 4 (l.map Fo.v)=true:=by
 simp[fits]
theorem qkD(l:List Fo)(hl:l.length≤4000)(S:St):qt prog 273 [.sl false (l.map Fo.v)] S (fun r U=>ql2 l S r U):=by
 refine qt.ib func273 ok273 ?_
 cases l with
 | nil=>
  simp[c273,evX];refine .inl ⟨by simp[ndK,ndX,Opd.ev,Env.get],?_⟩;intro v hv;simp[ndK,ndX,Opd.ev,Env.get] at hv;rcases hv with rfl|rfl
  ·simp;exact qf rfl (.inl ⟨rfl,⟨_,rfl⟩,rfl⟩)
  ·simp[fits,Z7,elems];exact qf rfl (.inl ⟨rfl,⟨_,rfl⟩,rfl⟩)
 | cons x l=>
  have hf:fits 4 (x.v::l.map Fo.v)=true:=qjI (x::l);have hf0:fits 4 []=true:=rfl
  have ha:Z7 S 4 40 (.sl true []) (.sl false (x.v::l.map Fo.v))=some (.arr S.length 0 (l.length+1) (l.length+1),S++[.arr (x.v::l.map Fo.v) 4 (l.length+1)]):=by
   simp only[qpF] at hl;have hr':(([]:List V).length+(x.v::l.map Fo.v).length) * 40≤2 ^ 47:=by simp;omega
   have hc:true=true∧fits 4 (x.v::l.map Fo.v)=true∧(([]:List V).all fun v=>v.size==4)=true∧(([]:List V).length+(x.v::l.map Fo.v).length) * 40≤2 ^ 47:=⟨rfl,hf,rfl,hr'⟩;unfold Z7;rw[ZE];show (if (x.v::l.map Fo.v).isEmpty=true then _ else _)=_;rw[if_neg (by simp),if_pos hc];simp
  simp[c273,evX,hf0,ha];exact qf rfl (.inr ⟨by simp,rfl,rfl⟩)
mutual
theorem V.frz_id{l:Nat}{xs:List V}{wr:Nat}:∀v:V,v.under 0=true→v.frz l xs wr=v
 | .arr l' i o st,h=>by simp only[V.under,decide_eq_true_eq] at h;omega
 | .sl x ys,h=>by simp only[V.under] at h;simp only[V.frz,V.frzL_id ys h]
 | .iface t v,h=>by simp only[V.under] at h;simp only[V.frz,V.frz_id v h]
 | .agg cs,h=>by simp only[V.under] at h;simp only[V.frz,V.frzL_id cs h]
 | .tup cs,h=>by simp only[V.under] at h;simp only[V.frz,V.frzL_id cs h]
 | .top,_=>rfl
 | .bool _,_=>rfl
 | .int _ _,_=>rfl
 | .str _,_=>rfl
 | .nilp,_=>rfl
 | .glob _ _,_=>rfl
 | .nilmap,_=>rfl
 | .nilfn,_=>rfl
 | .niliface,_=>rfl
 | .ptr _ _ _ _,_=>rfl
 | .map _,_=>rfl
 | .yld _,_=>rfl
 | .iptr _ _,_=>rfl
 | .fn _ _ _,_=>rfl
theorem V.frzL_id{l:Nat}{xs:List V}{wr:Nat}:∀vs:List V,V.underL 0 vs=true→V.frzL l xs wr vs=vs
 | [],_=>rfl
 | v::vs,h=>by
  simp only[V.underL,qpy] at h;simp only[V.frzL,V.frz_id v h.1,V.frzL_id vs h.2]
end
def Fv(n0 w:Nat)(F D:Np)(xs:List V)(rf:V)(S:St):Prop:=(xs=[]∧∃b,rf=.sl b [])∨∃l wr,n0≤l∧Off w F D l∧rf=.arr l 0 xs.length xs.length∧S[l]?=some (.arr xs 4 wr)∧wr≤xs.length
theorem Fv.step{n0 w:Nat}{F D F' D':Np}{xs:List V}{v:V}{S U:St}(h:Fv n0 w F D xs v S)(s:Stp w F D S F' D' U):Fv n0 w F' D' xs v U:=by
 rcases h with h|⟨l,wr,h1,h2,h3,h4,h5⟩
 ·exact .inl h
 ·exact .inr ⟨l,wr,h1,h2.next (qpi.1 h4).1 s,h3,s.at h2 h4,h5⟩
def lenS:V→Option V
 | .sl _ xs=>some (.int .i64 xs.length)
 | .arr _ _ n _=>some (.int .i64 n)
 | _=>none
theorem Fv.len{n0 w:Nat}{F D:Np}{xs:List V}{v:V}{S:St}(h:Fv n0 w F D xs v S):lenS v=some (.int .i64 xs.length):=by
 rcases h with ⟨rfl,b,rfl⟩|⟨l,wr,h1,h2,rfl,h4,h5⟩ <;> rfl
theorem Fv.flat{n0 w:Nat}{F D:Np}{xs:List V}{v:V}{S:St}(h:Fv n0 w F D xs v S):v.cells=[v]∧v.flat=true∧v.size=1:=by
 rcases h with ⟨rfl,b,rfl⟩|⟨l,wr,h1,h2,rfl,h4,h5⟩ <;> exact ⟨rfl,rfl,rfl⟩
theorem Fv.fin{c:Cb}(ok:c.Ok){w n:Nat}{hh:c.H}{F0 D0 F D:Np}{xs:List V}{rf:V}{S0 U:St}{n0:Nat}(h:Fv n0 w F D xs rf U)(hn0:S0.length≤n0)(k:Wk c w n hh F D U)(s:Stp w F0 D0 S0 F D U){a b:List V}(ha:V.underL 0 a=true)(hb:V.underL 0 b=true)(ha':V.weakL a=a)(hb':V.weakL b=b):
  ∃U',zy S0.length (.agg (a++rf::b)) U (.agg (a++.sl false (V.weakL xs)::b)) U'∧Wk c w n hh F D U'∧Stp w F0 D0 S0 F D U':=by
 have wl:∀x y:List V,V.weakL (x++y)=V.weakL x++V.weakL y:=fun x y=>by rw[qX,qX,qX,qpH]
 rcases h with ⟨rfl,b',rfl⟩|⟨l,wr,h1,h2,rfl,h3,h4⟩
 ·have:=zy.weak (n:=S0.length) (r:=.agg (a++.sl b' []::b)) (S:=U);simp only[V.weak,wl,V.weakL,ha',hb'] at this;exact ⟨U,this,k,s⟩
 ·have g1:=zy.freezeV (n:=S0.length) (r:=.agg (a++.arr l 0 xs.length xs.length::b)) h3
  have hz:V.frz l xs wr (.agg (a++.arr l 0 xs.length xs.length::b))=.agg (a++.sl false xs::b):=by
   simp only[V.frz,Ql,qpH,qpv];rw[←Ql,←Ql,V.frzL_id _ ha,V.frzL_id _ hb,if_pos (by simp[h4])];simp
  rw[hz] at g1;have g2:=zy.weak (n:=S0.length) (r:=.agg (a++.sl false xs::b)) (S:=U.set l .dead);simp only[V.weak,wl,V.weakL,ha',hb'] at g2;exact ⟨_,g1.trans g2,k.set ok _ h2.1 h2.2.1 h2.2.2,s.set _ (by omega)⟩
def rew(p:Pw)(sc:Scs)(l:List Fo):List Fo:=l.map (Fo.wr p sc)
def De.pr(p:Pw)(sc:Scs)(n:Nat)(d:De):De:=.mk d.kind d.own d.type d.names d.exps (rew p (qd (d.formals.map Fo.name) n::sc) d.formals) (Sm.wr1 p (qd (d.formals.map Fo.name) n::sc) (n+(qd (d.formals.map Fo.name) n).length) d.body)
def De.prH(p:Pw)(sc:Scs)(n:Nat)(h:p.H)(d:De):p.H:=Sm.hs1 p (qd (d.formals.map Fo.name) n::sc) (n+(qd (d.formals.map Fo.name) n).length) (enters p h (qd (d.formals.map Fo.name) n)) d.body
def De.prN(d:De):Nat:=(qd (d.formals.map Fo.name) 0).length+Sm.nb1 d.body
theorem zW(e:Env)(S:St)(x:Opd):evK e S (.len false x)=(x.ev e).bind fun v=>(lenS v).map fun r=>(r,S):=by
 simp only[evK]
 cases x.ev e with
 | none=>rfl
 | some v=>cases v <;> rfl
def qbS(p:Pw)(sc:Scs)(l:List Fo)(i:Nat):List V:=(rew p sc (l.take i)++l.drop i).map Fo.v
theorem kx(p:Pw)(sc:Scs)(l:List Fo)(i:Nat)(hi:i≤l.length):(qbS p sc l i).length=l.length:=by simp[qbS,rew];omega
theorem qhi(p:Pw)(sc:Scs)(l:List Fo)(i:Nat)(hi:i<l.length):(qbS p sc l i)[i]?=some l[i].v:=by
 unfold qbS rew;rw[qpt,qpj (by simp;omega)];simp[show i - min i l.length=0 by omega,hi]
theorem qgZ(p:Pw)(sc:Scs)(l:List Fo)(i:Nat)(hi:i<l.length):(qbS p sc l i).set i (Fo.wr p sc l[i]).v=qbS p sc l (i+1):=by
 unfold qbS rew;apply qqn;intro j;rw[List.getElem?_set];by_cases hj:i=j
 ·subst hj;rw[if_pos rfl,if_pos (by simp;omega),qpt,qpk (by simp;omega)];simp[qpQ,hi]
 ·rw[if_neg hj,qpt,qpt];congr 1;by_cases hlt:j<i
  ·rw[qpk (by simp;omega),qpk (by simp;omega),qpt,qpt,qpQ hlt,qpQ (by omega)]
  ·rw[qpj (by simp;omega),qpj (by simp;omega)];simp only[qps,qqA,qpU];congr 1;omega
structure Pf(c:Cb)(w n:Nat)(h:c.H)(F D F1 D1:Np)(S:St)(d:De)(U3:St)(xs:List V)(rf:V)(X:St):Prop where
 fv:Fv (S.length+2) w F1 D1 xs rf X
 wk:Wk c w n h F1 D1 X
 st:Stp w F D S F1 D1 X
 sg:Kp (fun l=>l=w∨F1 l∨(l=S.length∨l=S.length+1)) U3 X
 b0:X[S.length]?=some (.arr [d.v] 7 1)
 b1:X[S.length+1]?=some (.arr [.agg [.int .i64 0,.bool false,.int .i64 0,.sl true [],.sl true [],.sl true [],.sl true []]] 7 1)
theorem qdH(c:Cb)(ok:c.Ok)(w:Nat)(d:De)(H:∀s,s∈d.body→qk4 c w s)(hb:d.body.length≤4000)(hbs:∀s,s∈d.body→s.ok)(hf:d.formals.length≤4000)(n:Nat)(h:c.H)(F D:Np)(S:St)(v:V)(ts:List Sct)(hk:Wk c w n h F D S)(hsc:ScR c.toPw (fun l=>l=w∨F l) S v ts)
  (hn:n+d.prN≤c.lim):
  qt prog 256 [.ptr w 0 0 1,d.v,v] S (fun r U=>Wd c w (n+d.prN) (d.prH c.toPw (Scx ts) n h) F D S (d.pr c.toPw (Scx ts) n).v r U):=by
 refine qt.ib func256 ok256 ?_;unfold De.prN at hn;have hbl:=qx (d.formals.map Fo.name) n 0;obtain ⟨S1,hS1⟩:∃S1:St,S1=S++[.arr [d.v] 7 1,.arr [.agg [.int .i64 0,.bool false,.int .i64 0,.sl true [],.sl true [],.sl true [],.sl true []]] 7 1]:=⟨_,rfl⟩;have b0:S1[S.length]?=some (.arr [d.v] 7 1):=by rw[hS1,qpj (by omega)];simp
 have b1:S1[S.length+1]?=some (.arr [.agg [.int .i64 0,.bool false,.int .i64 0,.sl true [],.sl true [],.sl true [],.sl true []]] 7 1):=by rw[hS1,qpj (by omega)];simp
 have l1:S1.length=S.length+2:=by rw[hS1];simp
 have k1:Wk c w n h F D S1:=by rw[hS1];exact hk.push ok _
 have s1:Stp w F D S F D S1:=by rw[hS1];exact (Stp.refl _ _ _ _).push _
 have o0:Off w F D S.length:=hk.out ok (qpo _);have o1:Off w F D (S.length+1):=hk.out ok (by omega);simp[c256,qM,ldS,qi];rw[←hS1];refine qj (qji d S1) ?_;rintro r U2 ⟨rfl,hU2⟩;have k2:Wk c w n h F D U2:=by rw[hU2];exact k1.push ok _
 have s2:Stp w F D S F D U2:=by rw[hU2];exact s1.push _
 have c2:U2[S1.length]?=some (.arr [d.v] 7 1):=by rw[hU2];simp
 have b02:U2[S.length]?=some (.arr [d.v] 7 1):=by rw[hU2];exact gp b0
 have b12:U2[S.length+1]?=some (.arr [.agg [.int .i64 0,.bool false,.int .i64 0,.sl true [],.sl true [],.sl true [],.sl true []]] 7 1):=by rw[hU2];exact gp b1
 have l2:U2.length=S.length+3:=by rw[hU2];simp[l1]
 simp
 refine qj (jZ c ok w n h F D v ts (d.formals.map Fo.name) 277 [.ptr S1.length 0 0 1] S1.length _ (qfz d (by unfold B50;omega) S1.length) (by simp) U2 k2 (fun l=>l=S.length∨l=S.length+1) (by rintro l (rfl|rfl) <;> omega) ((hsc.more (X':=fun l=>l=w∨F l∨(l=S.length∨l=S.length+1)) (fun l hh=>by
  rcases hh with hh|hh|hh|hh
  ·exact .inl (.inl hh)
  ·exact .inl (.inr hh)
  ·exact .inr (by omega)
  ·exact .inr (by omega))).mono (s2.k.mono fun l _ hh=>hh.imp id .inl) fun l hh=>.inl hh) c2 (hk.out ok (by omega)) (by omega)) ?_
 rintro r U3 ⟨t,F1,D1,hts,k3,s3,hsc3⟩;have htl:=Sco.len_of hts;have hscx:Scx (t::ts)=qd (d.formals.map Fo.name) n::Scx ts:=by simp only[Scx,qpv,hts]
 have b03:=s3.at o0 b02;have b13:=s3.at o1 b12;have p0:=o0.next (by omega) s3;have p1:=o1.next (by omega) s3;have s3':=s2.trans s3;have l3:=s3.k.len;simp[ldS,b03];refine qj (qkD d.formals hf U3) ?_;rintro rf U4 hcl
 have hpf:Pf c w (n+t.length) (enters c.toPw h (qd (d.formals.map Fo.name) n)) F D F1 D1 S d U3 (qbS c.toPw (qd (d.formals.map Fo.name) n::Scx ts) d.formals 0) rf U4∧(rf=.arr U3.length 0 d.formals.length d.formals.length∨d.formals=[]):=by
  have h0:qbS c.toPw (qd (d.formals.map Fo.name) n::Scx ts) d.formals 0=d.formals.map Fo.v:=by simp[qbS,rew]
  rw[h0];rcases hcl with ⟨h1,⟨b,rfl⟩,rfl⟩|⟨h1,rfl,rfl⟩
  ·exact ⟨⟨.inl ⟨by rw[h1];rfl,b,rfl⟩,k3,s3',Kp.refl _ _,b03,b13⟩,.inr h1⟩
  ·exact ⟨⟨.inr ⟨U3.length,d.formals.length,by omega,k3.out ok (qpo _),by simp,by simp,by simp⟩,k3.push ok _,s3'.push _,(Kp.refl _ _).push _,gp b03,gp b13⟩,.inl rfl⟩
 obtain ⟨hpf,hrf⟩:=hpf;have hlen:lenS rf=some (.int .i64 d.formals.length):=by have:=hpf.fv.len;rwa [kx _ _ _ _ (by omega)] at this
 simp[↓zW,hlen];refine qO (fun e X=>Pf c w (n+t.length) (enters c.toPw h (qd (d.formals.map Fo.name) n)) F D F1 D1 S d U3 ((rew c.toPw (qd (d.formals.map Fo.name) n::Scx ts) d.formals).map Fo.v) rf X∧e.get 8=some rf∧e.get 7=some r∧e.get 0=some (.ptr w 0 0 1)∧e.get 4=some (.ptr S.length 0 0 1)∧e.get 6=some (.ptr (S.length+1) 0 0 1)) ?_ ?_
 ·refine qw (fun j e X=>∃i:Nat,j=d.formals.length - i∧i≤d.formals.length∧Pf c w (n+t.length) (enters c.toPw h (qd (d.formals.map Fo.name) n)) F D F1 D1 S d U3 (qbS c.toPw (qd (d.formals.map Fo.name) n::Scx ts) d.formals i) rf X∧
    e=[(20,.int .i64 i),(19,.int .i64 d.formals.length),(8,rf),(7,r),(0,.ptr w 0 0 1),(4,.ptr S.length 0 0 1),(6,.ptr (S.length+1) 0 0 1)]) d.formals.length _ ?_ ⟨0,by simp,by omega,hpf,rfl⟩ ?_
  ·exact Env.so (by simp)
  rintro j e X ⟨i,rfl,hi,hp,rfl⟩;by_cases hlt:i<d.formals.length
  ·have hpsc:=hsc3.mono hp.sg fun l hh=>.inl hh
   have hfind:=JU hpsc d.formals[i].name;have hat:=Jf (t::ts) d.formals[i].name;rw[hscx] at hat
   obtain ⟨q,hq⟩:∃q,fnd (t::ts) d.formals[i].name=some q:=by
    have:=zz (d.formals.map Fo.name) n (Scx ts) d.formals[i].name (qp2 (qpz hlt));rw[hat] at this
    cases hf:fnd (t::ts) d.formals[i].name with
    | none=>rw[hf] at this;cases this
    | some q=>exact ⟨q,rfl⟩
   have hv:YD (t::ts) d.formals[i].name=.ptr q.2 0 0 1:=by simp[YD,hq]
   have hr:ZO c.toPw (qd (d.formals.map Fo.name) n::Scx ts) d.formals[i].name=c.f q.1 d.formals[i].name:=by unfold ZO;rw[hat,hq];rfl
   rw[hv] at hfind;have hg1:=hpsc.fnd_get hq;unfold plc at hg1;have hne:d.formals≠[]:=by intro hh;rw[hh] at hlt;simp at hlt
   have hrf':=hrf.resolve_right hne;subst hrf';have hl:=kx c.toPw (qd (d.formals.map Fo.name) n::Scx ts) d.formals i (by omega);have hget:=qhi c.toPw (qd (d.formals.map Fo.name) n::Scx ts) d.formals i hlt;have hset:=qgZ c.toPw (qd (d.formals.map Fo.name) n::Scx ts) d.formals i hlt;have hl':=kx c.toPw (qd (d.formals.map Fo.name) n::Scx ts) d.formals (i+1) (by omega);rcases hp.fv with ⟨h1,_⟩|⟨fl,wr,z1,z2,z3,z4,z5⟩
   ·rw[h1] at hl;simp at hl;omega
   rw[hl] at z3 z5;cases z3
   have hupd:V.upd d.formals[i].v 0 1 (.str (c.f q.1 d.formals[i].name))=some (Fo.wr c.toPw (qd (d.formals.map Fo.name) n::Scx ts) d.formals[i]).v:=by
    rw[qnx,qi];unfold Fo.wr;rw[hr];rfl
   have hia:iaS X 4 (.arr U3.length 0 d.formals.length d.formals.length) (i:Int)=some (.ptr U3.length i 0 d.formals.length):=by
    simp[iaS,z4,z5,hlt]
   have hld:ldS X (.ptr U3.length i 0 d.formals.length) none=some (.str d.formals[i].name):=by
    simp[ldS,z4,z5,hlt,hget]
   have hst:stS X (.ptr U3.length i 0 d.formals.length) 1 (.str (c.f q.1 d.formals[i].name))=some (X.set U3.length (.arr (qbS c.toPw (qd (d.formals.map Fo.name) n::Scx ts) d.formals (i+1)) 4 d.formals.length)):=by
    simp[stS,z4,hl,hget,hupd,hset]
   simp[hlt,hia,hld];refine qg hfind ?_;have hld2:ldS X (.ptr q.2 0 2 1) none=some (.str (c.f q.1 d.formals[i].name)):=by simp[ldS,hg1]
   simp[zQ,hia,hld2,hst,ze (n:=(i:Int)+1)];have hltX:U3.length<X.length:=(qpi.1 z4).1;refine ⟨_,?_,_,?_,i+1,rfl,by omega,⟨.inr ⟨U3.length,d.formals.length,z1,z2,by rw[hl'],qpl hltX,by rw[hl'];exact qpo _⟩,hp.wk.set ok _ z2.1 z2.2.1 z2.2.2,hp.st.set _ (by omega),hp.sg.set _ (.inr (qpo _)),?_,?_⟩,rfl⟩
   ·omega
   ·exact Env.so (by simp)
   ·rw[qpm (by omega)];exact hp.b0
   ·rw[qpm (by omega)];exact hp.b1
  ·have:i=d.formals.length:=by omega
   subst this;have he:qbS c.toPw (qd (d.formals.map Fo.name) n::Scx ts) d.formals d.formals.length=(rew c.toPw (qd (d.formals.map Fo.name) n::Scx ts) d.formals).map Fo.v:=by simp[qbS]
   rw[he] at hp;simp;exact hp
 rintro e X ⟨hp,g8,g7,g0,g4,g6⟩;obtain ⟨f1,f2,f3⟩:=hp.fv.flat;have fl':=hp.fv.flat;obtain ⟨X1,hX1⟩:∃X1:St,X1=X.set S.length (.arr [.agg [.int .i64 d.kind,.bool d.own,.int .i64 d.type,.sl false (d.names.map .str),.sl false (d.exps.map Ex.v),rf,.sl false (d.body.map Sm.v)]] 7 1):=⟨_,rfl⟩;have lX:S.length<X.length:=glt hp.b0;have q0:X1[S.length]?=some (.arr [.agg [.int .i64 d.kind,.bool d.own,.int .i64 d.type,.sl false (d.names.map .str),.sl false (d.exps.map Ex.v),rf,.sl false (d.body.map Sm.v)]] 7 1):=by rw[hX1,qpl lX]
 have q1:X1[S.length+1]?=some (.arr [.agg [.int .i64 0,.bool false,.int .i64 0,.sl true [],.sl true [],.sl true [],.sl true []]] 7 1):=by rw[hX1,qpm (by omega)];exact hp.b1
 have kX:Wk c w (n+t.length) (enters c.toPw h (qd (d.formals.map Fo.name) n)) F1 D1 X1:=by rw[hX1];exact hp.wk.set ok _ p0.1 p0.2.1 p0.2.2
 have sX:Stp w F D S F1 D1 X1:=by rw[hX1];exact hp.st.set _ (qpo _)
 have scX:ScR c.toPw (fun l=>l=w∨F1 l) X1 r (t::ts):=by
  rw[hX1];exact (hsc3.mono (hp.sg.set _ (.inl (.inr (.inr (.inl rfl))))) fun l hh=>.inl hh).sub fun l hh=>hh.imp id .inl
 have fvX:Fv (S.length+2) w F1 D1 ((rew c.toPw (qd (d.formals.map Fo.name) n::Scx ts) d.formals).map Fo.v) rf X1:=by
  rcases hp.fv with hh|⟨fl,wr,z1,z2,z3,z4,z5⟩
  ·exact .inl hh
  ·exact .inr ⟨fl,wr,z1,z2,z3,by rw[hX1,qpm (by omega)];exact z4,z5⟩
 simp[g8,g7,g0,g4,stS,hp.b0,qaG,qi,f1,f2,f3];rw[←hX1];simp[ldS,q0,g8,g7,g0,g4,g6];have q2:=Yp c ok w d.body false H hb hbs _ _ F1 D1 X1 r (t::ts) kX scX (by omega);rw[hscx] at q2;refine qj q2 ?_;rintro r2 U5 ⟨rfl,F2,D2,k5,s5⟩;have c0:=s5.at p0 q0;have c1:=s5.at p1 q1;obtain ⟨av,hav⟩:∃av:V,av=.agg [.int .i64 d.kind,.bool d.own,.int .i64 d.type,.sl false (d.names.map .str),.sl false (d.exps.map Ex.v),rf,.sl false ((Sm.wr1 c.toPw (qd (d.formals.map Fo.name) n::Scx ts) (n+t.length) d.body).map Sm.v)]:=⟨_,rfl⟩;have c0':(U5.set S.length (.arr [av] 7 1))[S.length]?=some (.arr [av] 7 1):=qpl (glt c0);have c1':(U5.set S.length (.arr [av] 7 1))[S.length+1]?=some (.arr [.agg [.int .i64 0,.bool false,.int .i64 0,.sl true [],.sl true [],.sl true [],.sl true []]] 7 1):=by rw[qpm (by omega)];exact c1
 have lt1:S.length+1<U5.length:=glt c1;have lX1:S.length+1<X1.length:=glt q1;have p0':=p0.next (by omega) s5;have p1':=p1.next (by omega) s5;have kf:=(k5.set ok (.arr [av] 7 1) p0'.1 p0'.2.1 p0'.2.2).set ok (.arr [av] 7 1) p1'.1 p1'.2.1 p1'.2.2;have sf:=((sX.trans s5).set (.arr [av] 7 1) (qpo S.length)).set (l:=S.length+1) (.arr [av] 7 1) (by omega)
 have ff:Fv (S.length+2) w F2 D2 ((rew c.toPw (qd (d.formals.map Fo.name) n::Scx ts) d.formals).map Fo.v) rf ((U5.set S.length (.arr [av] 7 1)).set (S.length+1) (.arr [av] 7 1)):=by
  rcases fvX.step s5 with hh|⟨fl,wr,z1,z2,z3,z4,z5⟩
  ·exact .inl hh
  ·exact .inr ⟨fl,wr,z1,z2,z3,by rw[qpm (by omega),qpm (by omega)];exact z4,z5⟩
 have hget:((U5.set S.length (.arr [av] 7 1)).set (S.length+1) (.arr [av] 7 1))[S.length+1]?=some (.arr [av] 7 1):=qpl (by simp;omega);simp[g4,stS,c0,qi,f1,f2,f3];rw[←hav];have hpart:V.part av 0 (some 7)=some av:=by rw[hav,Qi];rfl
 have hsz:av.size=7:=by rw[hav];rfl
 have hcl:av.cells.all V.flat=true:=by rw[hav];simp[f2]
 have hcl':∀x,x∈av.cells→x.flat=true:=by simpa[qpG] using hcl
 simp[stS,ldS,c0',c1',g4,g6,qi,hpart,hsz];rw[if_pos hcl'];obtain ⟨U6,g,k6,s6⟩:=ff.fin ok (by omega) kf sf (S0:=S) (F0:=F) (D0:=D) (a:=[.int .i64 d.kind,.bool d.own,.int .i64 d.type,.sl false (d.names.map .str),.sl false (d.exps.map Ex.v)]) (b:=[.sl false ((Sm.wr1 c.toPw (qd (d.formals.map Fo.name) n::Scx ts) (n+t.length) d.body).map Sm.v)])
  (by simp[V.underL,V.under]) (by simp[V.underL,V.under]) (by simp only[V.weakL,V.weak,qgE,wEx]) (by simp only[V.weakL,V.weak,wSm])
 simp only[qpO,qqF,wFo] at g;rw[←hav] at g;refine ⟨[av],by simp[rvs,g6,ldS,hget,hpart],_,U6,g,?_,F2,D2,?_,s6⟩
 ·unfold De.pr;rw[De.v_eq,←htl];rfl
 ·have:n+t.length+Sm.nb1 d.body=n+d.prN:=by unfold De.prN;omega
  rw[this] at k6;unfold De.prH;rw[←htl];exact k6
def De.d1(p:Pw)(own sc:Scs)(d:De):De:=.mk d.kind d.own d.type (Jj p own d.names) (Ex.wrl p (if d.kind=2 then sc else own) false d.exps) d.formals d.body
theorem De.wr_eq(p:Pw)(own sc:Scs)(n:Nat)(d:De):d.wr p own sc n=if d.kind=4 then (d.d1 p own sc).pr p own n else d.d1 p own sc:=by
 cases d with
 | mk k o t nm e fo b=>
  rw[De.wr];show _=if k=4 then (De.d1 p own sc (.mk k o t nm e fo b)).pr p own n else De.d1 p own sc (.mk k o t nm e fo b)
  by_cases h:k=4
  ·subst h;rfl
  ·rw[if_neg h,if_neg h];rfl
theorem De.hs_eq(p:Pw)(own sc:Scs)(n:Nat)(h:p.H)(d:De):d.hs p own sc n h=if d.kind=4 then (d.d1 p own sc).prH p own n (Ex.hsl p (if d.kind=2 then sc else own) false h d.exps) else Ex.hsl p (if d.kind=2 then sc else own) false h d.exps:=by
 cases d with
 | mk k o t nm e fo b=>
  rw[De.hs];show _=if k=4 then (De.d1 p own sc (.mk k o t nm e fo b)).prH p own n (Ex.hsl p (if k=2 then sc else own) false h e) else Ex.hsl p (if k=2 then sc else own) false h e
  by_cases h:k=4
  ·subst h;rfl
  ·rw[if_neg h,if_neg h]
theorem De.nb_eq(d:De):d.nb=if d.kind=4 then d.prN else 0:=by
 cases d with
 | mk k o t nm e fo b=>rw[De.nb];rfl
theorem De.size_parts(d:De):(Pa.de d).size=1+d.names.length+d.formals.length+qJ (d.exps.map Pa.ex)+qJ (d.body.map Pa.st):=by
 rw[Pa.size_eq];simp only[Pa.own,Pa.kids,zg];omega
theorem qda(p:Pw)(own sc:Scs):∀(m:List De) (n:Nat),(De.wrl p own sc n m).length=m.length
 | [],_=>rfl
 | x::m,n=>by simp only[De.wrl,qpF,qda p own sc m]
theorem Gw.lt{sz n0 w:Nat}{F D:Np}{xs:List V}{v:V}{S:St}(h:Gw sz n0 w F D xs v S):∀l a b c,v=.arr l a b c→l<S.length:=by
 intro l a b c hv;rcases h with ⟨_,rfl⟩|⟨l',wr,_,_,rfl,h4,_⟩
 ·cases hv
 ·cases hv;exact (qpi.1 h4).1
theorem Gw.set{sz n0 w:Nat}{F D:Np}{xs:List V}{v:V}{S:St}(h:Gw sz n0 w F D xs v S){b:Nat}(o:Ob)(hne:∀l x y z,v=.arr l x y z→l<b):Gw sz n0 w F D xs v (S.set b o):=by
 rcases h with h|⟨l,wr,h1,h2,h3,h4,h5⟩
 ·exact .inl h
 ·exact .inr ⟨l,wr,h1,h2,h3,by rw[qpm (Nat.ne_of_gt (hne _ _ _ _ h3))];exact h4,h5⟩
theorem qdi(c:Cb)(ok:c.Ok)(w:Nat)(l:List De)(hl:qJ (l.map Pa.de)≤4000)(H:∀d,d∈l→∀s,s∈d.body→qk4 c w s)(hok:∀d,d∈l→∀s,s∈d.body→s.ok)(n:Nat)(h:c.H)(F D:Np)(S:St)(v1 v2:V)(tso ts:List Sct)(hk:Wk c w n h F D S)
  (hsc1:ScR c.toPw (fun l=>l=w∨F l) S v1 tso) (hsc2:ScR c.toPw (fun l=>l=w∨F l) S v2 ts) (hin:∀d,d∈l→qd3 (Scx tso) d.names) (hn:n+De.nbl l≤c.lim):
  qt prog 220 [.ptr w 0 0 1,.sl false (l.map De.v),v1,v2] S (fun r U=>Wd c w (n+De.nbl l) (De.hsl c.toPw (Scx tso) (Scx ts) n h l) F D S (.sl false ((De.wrl c.toPw (Scx tso) (Scx ts) n l).map De.v)) r U):=by
 have hlen:l.length≤4000:=by have:=Qc (l.map Pa.de);rw[qps] at this;omega
 refine qt.ib func220 ok220 ?_;simp[c220];refine qO (Ww c 7 w (n+De.nbl l) (De.hsl c.toPw (Scx tso) (Scx ts) n h l) F D S 9 ((De.wrl c.toPw (Scx tso) (Scx ts) n l).map De.v)) ?_ ?_
 ·refine qw (Lw c 7 w F D S l.length (fun i=>n+De.nbl (l.take i)) (fun i=>De.hsl c.toPw (Scx tso) (Scx ts) n h (l.take i)) (fun i=>(De.wrl c.toPw (Scx tso) (Scx ts) n (l.take i)).map De.v)
   (fun i gv=>[(14,.int .i64 i),(13,.int .i64 l.length),(12,.sl false (l.map De.v)),(9,gv),(0,.ptr w 0 0 1),(2,v1),(3,v2)])) l.length _ ?_ ⟨0,_,F,D,by simp,by omega,Gw.nil _ _ _ _ _ _,hk,Stp.refl _ _ _ _,rfl⟩ ?_
  ·exact Env.so (by simp)
  rintro j e U ⟨i,gv,F1,D1,rfl,hi,hg,hk1,hs1,rfl⟩;dsimp only at hg hk1;by_cases hlt:i<l.length
  case neg=>
   have:i=l.length:=by omega
   subst this;simp only[qp9] at hg hk1;simp;exact ⟨gv,F1,D1,rfl,hg,hk1,hs1⟩
  have hmem:l[i]∈l:=qpz hlt;have ht:l.take (i+1)=l.take i++[l[i]]:=by rw[qpI,qpn hlt];rfl
  have hnb:De.nbl (l.take (i+1))=De.nbl (l.take i)+l[i].nb:=by rw[ht,De.nbl_append];simp[De.nbl]
  have hnl:De.nbl (l.take (i+1))≤De.nbl l:=by
   have:De.nbl l=De.nbl (l.take (i+1))+De.nbl (l.drop (i+1)):=by rw[←De.nbl_append,qqy]
   omega
  have hszd:(Pa.de l[i]).size≤4000:=by
   have:=yH (l:=l.map Pa.de) (i:=i) (q:=Pa.de l[i]) (by simp[hlt]);omega
  rw[De.size_parts] at hszd;have hbl:l[i].body.length≤4000:=by have:=Qc (l[i].body.map Pa.st);rw[qps] at this;omega
  obtain ⟨d,hd⟩:∃d:De,d=l[i]:=⟨_,rfl⟩;have hv0:Ob.arr [l[i].v] 7 1=.arr [.agg [.int .i64 d.kind,.bool d.own,.int .i64 d.type,.sl false (d.names.map .str),.sl false (d.exps.map Ex.v),.sl false (d.formals.map Fo.v),.sl false (d.body.map Sm.v)]] 7 1:=by rw[←hd,De.v_eq]
  obtain ⟨U1,hU1⟩:∃U1:St,U1=U++[.arr [l[i].v] 7 1]:=⟨_,rfl⟩;have b1:U1[U.length]?=some (.arr [l[i].v] 7 1):=by rw[hU1];simp
  have k1:=hk1.push ok [.arr [l[i].v] 7 1];rw[←hU1] at k1;have s1:Stp w F D S F1 D1 U1:=by rw[hU1];exact hs1.push _
  have g1:Gw 7 S.length w F1 D1 ((De.wrl c.toPw (Scx tso) (Scx ts) n (l.take i)).map De.v) gv U1:=by rw[hU1];exact hg.push _
  have o1:Off w F1 D1 U.length:=hk1.out ok (qpo _);have lU1:U1.length=U.length+1:=by rw[hU1];simp
  have lSU:=hs1.k.len;simp[hlt,ql9,qM,stS,qi,ldS];rw[←hU1];refine qj (qeq c ok w l[i].names (by omega) _ _ F1 D1 U1 v1 tso (hin _ hmem) k1 (hsc1.step s1)) ?_;rintro r U2 ⟨rfl,F2,D2,k2,s2⟩;have b2:=s2.at o1 b1;have o2:=o1.next (by omega) s2;have g2:=g1.step s2;have s12:=s1.trans s2;have l2:=s2.k.len;obtain ⟨d1,hd1⟩:∃d1:De,d1=.mk d.kind d.own d.type (Jj c.toPw (Scx tso) d.names) d.exps d.formals d.body:=⟨_,rfl⟩;have hd1v:d1.v=.agg [.int .i64 d.kind,.bool d.own,.int .i64 d.type,.sl false ((Jj c.toPw (Scx tso) d.names).map .str),.sl false (d.exps.map Ex.v),.sl false (d.formals.map Fo.v),.sl false (d.body.map Sm.v)]:=by rw[hd1,De.v_eq];rfl
  obtain ⟨U3,hU3⟩:∃U3:St,U3=U2.set U.length (.arr [d1.v] 7 1):=⟨_,rfl⟩;have b3:U3[U.length]?=some (.arr [d1.v] 7 1):=by rw[hU3,qpl (glt b2)]
  have k3:=k2.set ok (.arr [d1.v] 7 1) o2.1 o2.2.1 o2.2.2;rw[←hU3] at k3;have s3:Stp w F D S F2 D2 U3:=by rw[hU3];exact s12.set _ lSU
  have g3:Gw 7 S.length w F2 D2 ((De.wrl c.toPw (Scx tso) (Scx ts) n (l.take i)).map De.v) gv U3:=by rw[hU3];exact g2.set _ hg.lt
  simp[ldS,b2,stS,qaG,qi];rw[←hd,←hd1v,←hU3];have d1k:d1.kind=d.kind:=by rw[hd1];rfl
  have d1e:d1.exps=d.exps:=by rw[hd1];rfl
  obtain ⟨tse,htse⟩:∃tse,tse=if d.kind=2 then ts else tso:=⟨_,rfl⟩
  have htse':Scx tse=if d.kind=2 then Scx ts else Scx tso:=by rw[htse];split <;> rfl
  have hexp:∀(ve:V),ScR c.toPw (fun l=>l=w∨F l) S ve tse→qt prog 134 [.ptr w 0 0 1,.sl false (d.exps.map Ex.v),ve,.bool false] U3 (fun r U=>Wd c w (n+De.nbl (l.take i)) (Ex.hsl c.toPw (Scx tse) false (De.hsl c.toPw (Scx tso) (Scx ts) n h (l.take i)) d.exps) F2 D2 U3 (.sl false ((Ex.wrl c.toPw (Scx tse) false d.exps).map Ex.v)) r U):=fun ve hve=>
   JZ c ok w d.exps (by rw[hd];omega) _ _ F2 D2 U3 ve tse false k3 (hve.step s3)
  have l3:U3.length=U2.length:=by rw[hU3];simp
  have o3:Off w F2 D2 U.length:=o2;obtain ⟨d2,hd2⟩:∃d2:De,d2=d.d1 c.toPw (Scx tso) (Scx ts):=⟨_,rfl⟩
  have hd2v:d2.v=.agg [.int .i64 d1.kind,.bool d1.own,.int .i64 d1.type,.sl false (d1.names.map .str),.sl false ((Ex.wrl c.toPw (Scx tse) false d.exps).map Ex.v),.sl false (d1.formals.map Fo.v),.sl false (d1.body.map Sm.v)]:=by
   rw[hd2,De.v_eq,hd1,htse'];rfl
  have d2k:d2.kind=d.kind:=by rw[hd2];rfl
  have hw:l[i].wr c.toPw (Scx tso) (Scx ts) (n+De.nbl (l.take i))=if d.kind=4 then d2.pr c.toPw (Scx tso) (n+De.nbl (l.take i)) else d2:=by rw[←hd,De.wr_eq,hd2]
  have hhs:De.hs c.toPw (Scx tso) (Scx ts) (n+De.nbl (l.take i)) (De.hsl c.toPw (Scx tso) (Scx ts) n h (l.take i)) l[i]=if d.kind=4 then d2.prH c.toPw (Scx tso) (n+De.nbl (l.take i)) (Ex.hsl c.toPw (Scx tse) false (De.hsl c.toPw (Scx tso) (Scx ts) n h (l.take i)) d.exps) else Ex.hsl c.toPw (Scx tse) false (De.hsl c.toPw (Scx tso) (Scx ts) n h (l.take i)) d.exps:=by rw[←hd,De.hs_eq,hd2,htse']
  have hnb':l[i].nb=if d.kind=4 then d2.prN else 0:=by rw[←hd,De.nb_eq,hd2];rfl
  have fin:∀(F' D':Np) (X:St),Wk c w (n+De.nbl (l.take i)+l[i].nb) (De.hs c.toPw (Scx tso) (Scx ts) (n+De.nbl (l.take i)) (De.hsl c.toPw (Scx tso) (Scx ts) n h (l.take i)) l[i]) F' D' X→Stp w F D S F' D' X→Gw 7 S.length w F' D' ((De.wrl c.toPw (Scx tso) (Scx ts) n (l.take i)).map De.v) gv X→
    ∃v' X',Z7 X 7 120 gv (.sl true [(l[i].wr c.toPw (Scx tso) (Scx ts) (n+De.nbl (l.take i))).v])=some (v',X')∧Gw 7 S.length w F' D' ((De.wrl c.toPw (Scx tso) (Scx ts) n (l.take (i+1))).map De.v) v' X'∧Wk c w (n+De.nbl (l.take (i+1))) (De.hsl c.toPw (Scx tso) (Scx ts) n h (l.take (i+1))) F' D' X'∧Stp w F D S F' D' X':=fun F' D' X hk hs hg=>by
   obtain ⟨v',X',ha,hg3,hk3,hs4⟩:=hg.app1 ok (bytes:=120) (b:=true) hk hs (De.fits1 (l[i].wr c.toPw (Scx tso) (Scx ts) (n+De.nbl (l.take i)))) (by
    rw[qps,qda,qqA];omega)
   have hn1:(De.wrl c.toPw (Scx tso) (Scx ts) n (l.take i)).map De.v++[(l[i].wr c.toPw (Scx tso) (Scx ts) (n+De.nbl (l.take i))).v]=(De.wrl c.toPw (Scx tso) (Scx ts) n (l.take (i+1))).map De.v:=by
    rw[ht,De.wrl_append,qpH];rfl
   have hn2:De.hs c.toPw (Scx tso) (Scx ts) (n+De.nbl (l.take i)) (De.hsl c.toPw (Scx tso) (Scx ts) n h (l.take i)) l[i]=De.hsl c.toPw (Scx tso) (Scx ts) n h (l.take (i+1)):=by
    rw[ht,De.hsl_append];rfl
   rw[hn1] at hg3;rw[hn2,qp3,←hnb] at hk3;exact ⟨v',X',ha,hg3,hk3,hs4⟩
  rw[hw] at fin;by_cases h2:d.kind=2
  all_goals
   simp[ldS,b3,d1k,d1e,h2]
   refine qj (hexp _ (by rw[htse];first|(rw[if_pos h2];exact hsc2)|(rw[if_neg h2];exact hsc1))) ?_
   rintro r U4 ⟨rfl,F3,D3,k4,s4⟩
   have b4:=s4.at o3 b3
   have lU3:U.length<U3.length:=glt b3
   have o4:=o3.next lU3 s4
   have g4:=(g3.step s4).set (.arr [d2.v] 7 1) hg.lt
   have s34:=(s3.trans s4).set (.arr [d2.v] 7 1) lSU
   have k5:=k4.set ok (.arr [d2.v] 7 1) o4.1 o4.2.1 o4.2.2
   have b5:(U4.set U.length (.arr [d2.v] 7 1))[U.length]?=some (.arr [d2.v] 7 1):=qpl (glt b4)
   simp[ldS,b4,stS,qaG,qi]
   rw[←hd2v]
   generalize U4.set U.length (.arr [d2.v] 7 1)=U5 at g4 s34 k5 b5 ⊢
   by_cases h4:d.kind=4
   ·have q:=qdH c ok w d2 (by rw[hd2,hd];exact H l[i] hmem) (by rw[hd2,hd];exact hbl) (by rw[hd2,hd];exact hok l[i] hmem) (by rw[hd2,hd];show l[i].formals.length≤4000;omega) _ _ F3 D3 U5 v1 tso k5 (hsc1.step s34) (by rw[if_pos h4] at hnb';omega);simp[ldS,b5,d2k,h4];refine qj q ?_;rintro r U6 ⟨rfl,F4,D4,k6,s6⟩;have b6:=s6.at o4 b5;have lU5:U.length<U5.length:=glt b5;have o6:=o4.next lU5 s6;obtain ⟨d3,hd3⟩:∃d3:De,d3=d2.pr c.toPw (Scx tso) (n+De.nbl (l.take i)):=⟨_,rfl⟩;rw[hnb',if_pos h4,hhs,if_pos h4,if_pos h4,←hd3] at fin;rw[←hd3];have g6:=(g4.step s6).set (.arr [d3.v] 7 1) hg.lt;have s56:=(s34.trans s6).set (.arr [d3.v] 7 1) lSU;have k7:=k6.set ok (.arr [d3.v] 7 1) o6.1 o6.2.1 o6.2.2;have b7:(U6.set U.length (.arr [d3.v] 7 1))[U.length]?=some (.arr [d3.v] 7 1):=qpl (glt b6);obtain ⟨v',X',ha,hg3,hk3,hs4⟩:=fin F4 D4 _ k7 s56 g6;simp[ldS,b6,stS,qaG,qi];generalize U6.set U.length (.arr [d3.v] 7 1)=U7 at ha b7 ⊢;simp[ldS,b7,De.fits1,ha,ze (n:=(i:Int)+1)];refine ⟨_,?_,_,?_,i+1,v',F4,D4,rfl,by omega,hg3,hk3,hs4,rfl⟩
    ·omega
    ·exact Env.so (by simp)
   ·rw[hnb',if_neg h4,hhs,if_neg h4,if_neg h4] at fin;obtain ⟨v',X',ha,hg3,hk3,hs4⟩:=fin F3 D3 U5 k5 s34 g4;simp[ldS,b5,d2k,h4,De.fits1,ha,ze (n:=(i:Int)+1)];refine ⟨_,?_,_,?_,i+1,v',F3,D3,rfl,by omega,hg3,hk3,hs4,rfl⟩
    ·omega
    ·exact Env.so (by simp)
 rintro e U ⟨gv,F1,D1,g9,hg,hk1,hs1⟩;simp[g9];exact YF ok rfl hg hk1 hs1 (by rw[←qX,wDe])
theorem Sm.wr_eq(p:Pw)(sc:Scs)(n:Nat)(s:Sm):s.wr p sc n=
  if s.kind=7 then .mk (Jj p sc s.labels) s.kind s.text (Ex.wrl p sc true s.targets) s.exps s.elems (De.wrl p (qd (qe s.decls s.body) n::sc) sc (n+(qd (qe s.decls s.body) n).length) s.decls) (Sm.wrl p (qd (qe s.decls s.body) n::sc) (n+(qd (qe s.decls s.body) n).length+De.nbl s.decls) s.body)
  else if s.kind=8 then .mk (Jj p sc s.labels) s.kind s.text (Ex.wrl p sc true s.targets) s.exps s.elems s.decls (Sm.wrl p (qd (qk s.body) n::sc) (n+(qd (qk s.body) n).length) s.body)
  else .mk (Jj p sc s.labels) s.kind (p.clE sc s.kind s.text) (Ex.wrl p sc true s.targets) (Ex.wrl p sc false s.exps) (El.wrl p sc s.elems) s.decls (Sm.wr1 p sc n s.body):=by
 cases s;rw[Sm.wr];rfl
theorem Sm.hs_eq(p:Pw)(sc:Scs)(n:Nat)(h:p.H)(s:Sm):s.hs p sc n h=
  if s.kind=7 then Sm.hsl p (qd (qe s.decls s.body) n::sc) (n+(qd (qe s.decls s.body) n).length+De.nbl s.decls) (De.hsl p (qd (qe s.decls s.body) n::sc) sc (n+(qd (qe s.decls s.body) n).length) (enters p (Ex.hsl p sc true h s.targets) (qd (qe s.decls s.body) n)) s.decls) s.body
  else if s.kind=8 then Sm.hsl p (qd (qk s.body) n::sc) (n+(qd (qk s.body) n).length) (enters p (Ex.hsl p sc true h s.targets) (qd (qk s.body) n)) s.body
  else p.clS sc s.kind (Sm.hs1 p sc n (El.hsl p sc (Ex.hsl p sc false (Ex.hsl p sc true h s.targets) s.exps) s.elems) s.body) s.text:=by
 cases s;rw[Sm.hs];rfl
theorem Sm.nb_eq(s:Sm):s.nb=if s.kind=7 then (qd (qe s.decls s.body) 0).length+De.nbl s.decls+Sm.nbl s.body else if s.kind=8 then (qd (qk s.body) 0).length+Sm.nbl s.body else Sm.nb1 s.body:=by
 cases s;rw[Sm.nb];rfl
theorem Sm.size_parts(s:Sm):(Pa.st s).size=1+s.labels.length+qJ (s.targets.map Pa.ex)+qJ (s.exps.map Pa.ex)+qJ (s.elems.map Pa.el)+qJ (s.decls.map Pa.de)+qJ (s.body.map Pa.st):=by
 rw[Pa.size_eq];simp only[Pa.own,Pa.kids,zg];omega
theorem gpp{U:St}{x:Nat}{o:Ob}{os:List Ob}(h:U[x]?=some o):(U++os)[x]?=some o:=by rw[qpk (qpi.1 h).1];exact h
abbrev smZ:V:=.agg [.sl true [],.int .i64 0,.str ⟨⟨[]⟩⟩,.sl true [],.sl true [],.sl true [],.sl true [],.sl true []]
theorem ScR.yb{p:Pw}{w:Nat}{F D F' D':Np}{S X:St}{v:V}{ts:List Sct}(h:ScR p (fun l=>l=w∨F l) S v ts)(s:Stp w F D S F' D' X):ScR p (fun l=>l=w∨F' l∨(l=S.length∨l=S.length+1)) X v ts:=
 h.mono s.k fun l hh=>by
  rcases hh with hh|hh|hh|hh
  ·exact .inl (.inl hh)
  ·exact (s.gF l hh).imp .inr id
  ·exact .inr (by omega)
  ·exact .inr (by omega)
structure Bx(c:Cb)(w n:Nat)(h:c.H)(F D:Np)(S:St)(y:Sm)(F' D':Np)(X:St):Prop where
 b0:X[S.length]?=some (.arr [y.v] 8 1)
 b1:X[S.length+1]?=some (.arr [smZ] 8 1)
 wk:Wk c w n h F' D' X
 st:Stp w F D S F' D' X
 o0:Off w F' D' S.length
 o1:Off w F' D' (S.length+1)
section
variable {c:Cb} (ok:c.Ok) {w n:Nat} {h:c.H} {F D F' D':Np} {S X:St} {y:Sm} (b:Bx c w n h F D S y F' D' X)
include b
theorem Bx.call{n':Nat}{h':c.H}{x r:V}{U:St}(d:Wd c w n' h' F' D' X x r U):r=x∧∃F2 D2,Bx c w n' h' F D S y F2 D2 U:=by
 obtain ⟨rfl,F2,D2,k,s⟩:=d;have l0:=glt b.b0;have l1:=glt b.b1;exact ⟨rfl,F2,D2,s.at b.o0 b.b0,s.at b.o1 b.b1,k,b.st.trans s,b.o0.next l0 s,b.o1.next l1 s⟩
theorem Bx.step{n':Nat}{h':c.H}{F2 D2:Np}{U:St}(k:Wk c w n' h' F2 D2 U)(s:Stp w F' D' X F2 D2 U):Bx c w n' h' F D S y F2 D2 U:=by
 have l0:=glt b.b0;have l1:=glt b.b1;exact ⟨s.at b.o0 b.b0,s.at b.o1 b.b1,k,b.st.trans s,b.o0.next l0 s,b.o1.next l1 s⟩
omit b in
def Yb(S:St)(l:Nat):Prop:=l=S.length∨l=S.length+1
include ok
theorem Bx.put(y':Sm):Bx c w n h F D S y' F' D' (X.set S.length (.arr [y'.v] 8 1)):=by
 have l1:=glt b.b1;exact ⟨qpl (glt b.b0),by rw[qpm (by omega)];exact b.b1,b.wk.set ok _ b.o0.1 b.o0.2.1 b.o0.2.2,b.st.set _ (qpo _),b.o0,b.o1⟩
theorem Bx.push(os:List Ob):Bx c w n h F D S y F' D' (X++os):=⟨gpp b.b0,gpp b.b1,b.wk.push ok _,b.st.push _,b.o0,b.o1⟩
theorem Bx.fin{e:Env}(he:e.get 6=some (.ptr (S.length+1) 0 0 1)):jR [.cell 6 (some 8)] S.length (fun r U=>Wd c w n h F D S y.v r U) .ret e (X.set (S.length+1) (.arr [y.v] 8 1)):=by
 have hz:(X.set (S.length+1) (.arr [y.v] 8 1))[S.length+1]?=some (.arr [y.v] 8 1):=qpl (glt b.b1);exact qf (vs:=[y.v]) (by simp[rvs,he,ldS,hz]) ⟨rfl,F',D',b.wk.set ok _ b.o1.1 b.o1.2.1 b.o1.2.2,b.st.set _ (by omega)⟩
end
theorem smV(a:List Bz)(k:Int)(t:Bz)(g e:List Ex)(l:List El)(d:List De)(b:List Sm):V.agg [.sl false (a.map .str),.int .i64 k,.str t,.sl false (g.map Ex.v),.sl false (e.map Ex.v),.sl false (l.map El.v),.sl false (d.map De.v),.sl false (b.map Sm.v)]=(Sm.mk a k t g e l d b).v:=by rw[Sm.v_eq];rfl
theorem qd0{c:Cb}(ok:c.Ok){w n:Nat}{h:c.H}{F D Y:Np}{S:St}{v:V}{ts:List Sct}(hk:Wk c w n h F D S)(hY:∀l,Y l→l<S.length)(hsc:ScR c.toPw (fun l=>l=w∨F l∨Y l) S v ts)(s:Sco)(hc:c.cn (enters c.toPw h s) (n+s.length)):∃r U,qnz c w n h F D Y ts s S r U:=by
 obtain ⟨F',D',U0,q1,q2,q3,q4⟩:=ok.real hk.st (enters c.toPw h s);obtain ⟨⟨ka,kb,kd⟩,st⟩:=hk.call0 ok q1 q2 q3 q4;have hlt:=(qpi.1 ka).1;have hl0:=st.k.len;obtain ⟨t,ht⟩:∃t:Sct,t=s.zipIdx.map fun e=>(e.1.1,e.1.2,U0.length+3+e.2):=⟨_,rfl⟩
 have hts:t.sco=s:=by
  rw[ht];unfold Sct.sco;rw[qqI];apply qqn;intro i;simp only[qpt,List.getElem?_zipIdx];cases s[i]? <;> rfl
 have htl:=Sco.len_of hts;obtain ⟨os,hos⟩:∃os:List Ob,os=[.arr [.agg [v]] 1 1,.map (t.map qd5) (jQ t.length) t.length,.arr [.agg [.ptr U0.length 0 0 1,.map (U0.length+1)]] 2 1]++s.map fun e=>plc e.1 e.2 (c.f e.2 e.1):=⟨_,rfl⟩
 have g:∀j o,os[j]?=some o→(U0.set w (wkr c (n+t.length))++os)[U0.length+j]?=some o:=fun j o ho=>by
  rw[qpj (by simp),List.length_set,qqC];exact ho
 have kk:Wk c w (n+t.length) (enters c.toPw h s) F' D' (U0.set w (wkr c (n+t.length))++os):=Wk.push ok ⟨qpl hlt,ok.fr (M:=fun l=>l=w) q1 ((Kp.refl _ _).set _ (.inl rfl)) (fun l hl _=>by rw[hl];exact ⟨kb,kd⟩),kb,kd,by rw[htl];exact hc⟩ _;have ss:Stp w F D S F' D' (U0.set w (wkr c (n+t.length))++os):=⟨(st.k.set _ (.inl (.inl rfl))).push _,st.gF,st.gD⟩
 have out:∀l,U0.length≤l→¬ (l=w∨F' l∨Y l):=by
  rintro l hl (rfl|hf|hy)
  ·omega
  ·have:=ok.lt q1 l (.inl hf);omega
  ·have:=hY l hy;omega
 refine ⟨.ptr (U0.length+2) 0 0 1,_,t,F',D',hts,kk,ss,U0.length+2,U0.length,U0.length+1,v,_,_,rfl,⟨out _ (by omega),out _ (qpo _),out _ (by omega)⟩,g 2 _ (by rw[hos];rfl),g 0 _ (by rw[hos];rfl),g 1 _ (by rw[hos];rfl),fun e he=>?_,hsc.mono (ss.k.mono fun l _ hh=>hh.imp id .inl) fun l hh=>?_⟩
 ·obtain ⟨j,hj⟩:=qpZ he;rw[ht,qpt,List.getElem?_zipIdx] at hj
  cases hs:s[j]? with
  | none=>rw[hs] at hj;simp at hj
  | some x=>
   rw[hs] at hj;simp at hj;subst hj;refine ⟨out _ (by simp only;omega),?_⟩;rw[show U0.length+3+j=U0.length+(3+j) by omega];refine g _ _ ?_;rw[hos,qpj (by simp)];simp[hs]
 ·rcases hh with hh|hh|hh
  ·exact .inl (.inl hh)
  ·exact (q3 l hh).imp (fun a=>.inr (.inl a)) id
  ·exact .inl (.inr (.inr hh))
theorem qbL(c:Cb)(ok:c.Ok)(w:Nat):∀(m:Nat) (s:Sm),(Pa.st s).size≤m→m≤4000→s.ok→qk4 c w s
 | 0,s,hx,_,_=>by have:=(Pa.st s).size_pos;omega
 | m+1,s,hx,hm,hok=>by
  intro n h F D S v ts hk hsc hin hn;have O:=(Sm.ok_iff s).1 hok;have hsz:=Sm.size_parts s
  have IHb:∀y,y∈s.body→qk4 c w y:=fun y hy=>qbL c ok w m y (by
   obtain ⟨i,hi⟩:=qpZ (qp2 (f:=Pa.st) hy);have:=yH hi;omega) (by omega) (Sm.okL_mem O.body.2 y hy)
  have IHd:∀d,d∈s.decls→∀y,y∈d.body→qk4 c w y:=fun d hd y hy=>qbL c ok w m y (by
   obtain ⟨i,hi⟩:=qpZ (qp2 (f:=Pa.de) hd);have h1:=yH hi;have h2:=De.size_parts d;obtain ⟨j,hj⟩:=qpZ (qp2 (f:=Pa.st) hy);have:=yH hj;omega) (by omega) (Sm.okL_mem ((De.ok_iff d).1 (De.okL_mem O.decls.2 d hd)).body.2 y hy)
  have hokd:∀d,d∈s.decls→∀y,y∈d.body→y.ok:=fun d hd y hy=>Sm.okL_mem ((De.ok_iff d).1 (De.okL_mem O.decls.2 d hd)).body.2 y hy
  have hokb:∀y,y∈s.body→y.ok:=fun y hy=>Sm.okL_mem O.body.2 y hy
  have hbl:s.body.length≤4000:=by have:=Qc (s.body.map Pa.st);rw[qps] at this;omega
  refine qt.ib func186 ok186 ?_;obtain ⟨S1,hS1⟩:∃S1:St,S1=S++[.arr [s.v] 8 1,.arr [smZ] 8 1]:=⟨_,rfl⟩
  have B1:Bx c w n h F D S s F D S1:=by
   rw[hS1];exact ⟨by rw[qpj (by omega)];simp,by rw[qpj (by omega)];simp,hk.push ok _,(Stp.refl _ _ _ _).push _,hk.out ok (by omega),hk.out ok (by omega)⟩
  simp[c186,qM,ldS,qi];rw[←hS1];refine qj (qeq c ok w s.labels (by omega) n h F D S1 v ts hin B1.wk (hsc.step B1.st)) ?_;intro r U hU;obtain ⟨rfl,F2,D2,B2⟩:=B1.call hU;clear hU;obtain ⟨y1,hy1⟩:∃y1:Sm,y1=.mk (Jj c.toPw (Scx ts) s.labels) s.kind s.text s.targets s.exps s.elems s.decls s.body:=⟨_,rfl⟩;have B3:=B2.put ok y1;simp[stS,ldS,B2.b0,Ze,qi];rw[smV,←hy1];generalize U.set S.length (.arr [y1.v] 8 1)=U3 at B3 ⊢;have e1:y1.targets=s.targets:=by rw[hy1];rfl
  simp[ldS,B3.b0,e1];refine qj (JZ c ok w s.targets (by omega) n h F2 D2 U3 v ts true B3.wk (hsc.step B3.st)) ?_;intro r U hU;obtain ⟨rfl,F3,D3,B4⟩:=B3.call hU;clear hU;obtain ⟨y2,hy2⟩:∃y2:Sm,y2=.mk (Jj c.toPw (Scx ts) s.labels) s.kind s.text (Ex.wrl c.toPw (Scx ts) true s.targets) s.exps s.elems s.decls s.body:=⟨_,rfl⟩;have B5:=B4.put ok y2;simp[stS,ldS,B4.b0,Ze,qi];have hy2v:V.agg [.sl false (y1.labels.map .str),.int .i64 y1.kind,.str y1.text,.sl false ((Ex.wrl c.toPw (Scx ts) true s.targets).map Ex.v),.sl false (y1.exps.map Ex.v),.sl false (y1.elems.map El.v),.sl false (y1.decls.map De.v),.sl false (y1.body.map Sm.v)]=y2.v:=by rw[smV,hy1,hy2];rfl
  rw[hy2v];generalize U.set S.length (.arr [y2.v] 8 1)=U5 at B5 ⊢;have k2:y2.kind=s.kind:=by rw[hy2];rfl
  have x2:y2.exps=s.exps:=by rw[hy2];rfl
  have l2:y2.elems=s.elems:=by rw[hy2];rfl
  have d2:y2.decls=s.decls:=by rw[hy2];rfl
  have t2:y2.body=s.body:=by rw[hy2];rfl
  obtain ⟨h2,hh2⟩:∃h2,h2=Ex.hsl c.toPw (Scx ts) true h s.targets:=⟨_,rfl⟩;rw[←hh2] at B5;have hw:=Sm.wr_eq c.toPw (Scx ts) n s;have hh:=Sm.hs_eq c.toPw (Scx ts) n h s;have hnb:=Sm.nb_eq s;rw[←hh2] at hh;simp[ldS,B5.b0,k2];by_cases h7:s.kind=7
  ·rw[if_pos h7] at hw hh hnb;have hbn:=qx (qe s.decls s.body) n 0;simp[h7,ldS,B5.b0];refine qj (qi9 y2 U5) ?_;rintro r U6 ⟨rfl,hU6⟩;have B6:=B5.push ok [.arr [y2.v] 8 1];rw[←hU6] at B6;have c6:U6[U5.length]?=some (.arr [y2.v] 8 1):=by rw[hU6];simp
   have hy:=qeI y2 (by rw[d2];exact O.decls) (by rw[t2];exact O.body) U5.length;rw[d2,t2] at hy;have lS5:=B5.st.k.len;simp;refine qj (jZ c ok w n h2 F3 D3 v ts (qe s.decls s.body) 255 [.ptr U5.length 0 0 1] U5.length _ hy (by simp) U6 B6.wk (Yb S) (by rintro l (rfl|rfl);exact glt B6.b0;exact glt B6.b1) (hsc.yb B6.st) c6 (B5.wk.out ok (qpo _)) (by omega)) ?_;rintro r U7 ⟨t,F4,D4,hts,k7,s7,sc7⟩;have htl:=Sco.len_of hts;have hscx:Scx (t::ts)=qd (qe s.decls s.body) n::Scx ts:=by simp only[Scx,qpv,hts]
   have B7:=B6.step k7 s7;simp[ldS,B7.b0,d2]
   have q:=qdi c ok w s.decls (by omega) IHd hokd _ _ F4 D4 U7 r v (t::ts) ts B7.wk (sc7.sub fun l hl=>hl.imp id .inl) (hsc.step B7.st) (by
    intro d hd;rw[hscx];exact (zz _ _ _).sub fun x hx=>qpx _ (qqG.2 ⟨d,hd,hx⟩)) (by omega)
   rw[hscx] at q;refine qj q ?_;rintro r2 U8 ⟨rfl,F5,D5,k8,s8⟩;have B8:=B7.step k8 s8;obtain ⟨y3,hy3⟩:∃y3:Sm,y3=.mk (Jj c.toPw (Scx ts) s.labels) s.kind s.text (Ex.wrl c.toPw (Scx ts) true s.targets) s.exps s.elems (De.wrl c.toPw (qd (qe s.decls s.body) n::Scx ts) (Scx ts) (n+t.length) s.decls) s.body:=⟨_,rfl⟩;have hy3v:V.agg [.sl false (y2.labels.map .str),.int .i64 y2.kind,.str y2.text,.sl false (y2.targets.map Ex.v),.sl false (y2.exps.map Ex.v),.sl false (y2.elems.map El.v),.sl false ((De.wrl c.toPw (qd (qe s.decls s.body) n::Scx ts) (Scx ts) (n+t.length) s.decls).map De.v),.sl false (y2.body.map Sm.v)]=y3.v:=by rw[smV,hy2,hy3];rfl
   have B9:=B8.put ok y3
   have sc9:ScR c.toPw (fun l=>l=w∨F5 l) (U8.set S.length (.arr [y3.v] 8 1)) r (t::ts):=by
    refine (sc7.mono ((s8.k.mono fun l _ hh=>hh.imp id .inl).set _ (.inl (.inr (.inr (.inl rfl))))) (X':=fun l=>l=w∨F5 l) fun l hh=>?_);rcases hh with hh|hh
    ·exact .inl (.inl hh)
    ·exact (s8.gF l hh).imp (fun a=>.inr (.inl a)) id
   simp[stS,B8.b0,Ze,qi];rw[hy3v];generalize U8.set S.length (.arr [y3.v] 8 1)=U9 at B9 sc9 ⊢;have b3:y3.body=s.body:=by rw[hy3];rfl
   simp[ldS,B9.b0,b3];have q3:=Yt c ok w s.body false IHb hbl _ _ F5 D5 U9 r (t::ts) B9.wk sc9 (by rw[hscx];exact (zz _ _ _).sub fun x hx=>qpA _ hx) (by omega);rw[hscx] at q3;refine qj q3 ?_;rintro r3 U10 ⟨rfl,F6,D6,k10,s10⟩;have B10:=B9.step k10 s10;obtain ⟨y4,hy4⟩:∃y4:Sm,y4=.mk (Jj c.toPw (Scx ts) s.labels) s.kind s.text (Ex.wrl c.toPw (Scx ts) true s.targets) s.exps s.elems (De.wrl c.toPw (qd (qe s.decls s.body) n::Scx ts) (Scx ts) (n+t.length) s.decls) (Sm.wrl c.toPw (qd (qe s.decls s.body) n::Scx ts) (n+t.length+De.nbl s.decls) s.body):=⟨_,rfl⟩;have hy4v:V.agg [.sl false (y3.labels.map .str),.int .i64 y3.kind,.str y3.text,.sl false (y3.targets.map Ex.v),.sl false (y3.exps.map Ex.v),.sl false (y3.elems.map El.v),.sl false (y3.decls.map De.v),.sl false ((Sm.wrl c.toPw (qd (qe s.decls s.body) n::Scx ts) (n+t.length+De.nbl s.decls) s.body).map Sm.v)]=y4.v:=by rw[smV,hy3,hy4];rfl
   have B11:=B10.put ok y4;simp[stS,B10.b0,Ze,qi];rw[hy4v];generalize U10.set S.length (.arr [y4.v] 8 1)=U11 at B11 ⊢;have k4:y4.kind=7:=by rw[hy4,←h7];rfl
   simp[ldS,B11.b0,B11.b1,k4,stS,qi];rw[hw,hh,hnb,←htl,←hy4,show n+((qd (qe s.decls s.body) 0).length+De.nbl s.decls+Sm.nbl s.body)=n+t.length+De.nbl s.decls+Sm.nbl s.body by omega];exact B11.fin ok rfl
  by_cases h8:s.kind=8
  ·rw[if_neg h7,if_pos h8] at hw hh hnb;have hbn:=qx (qk s.body) n 0;simp[h8,ldS,B5.b0,t2];refine Qp (qbe s.body false U5) ⟨_,_,rfl,rfl⟩ ?_;rintro r U6 ⟨rfl,hU6⟩;have B6:=B5.push ok [.arr [.sl false (s.body.map Sm.v)] 1 1];rw[←hU6] at B6;have c6:U6[U5.length]?=some (.arr [.sl false (s.body.map Sm.v)] 1 1):=by rw[hU6];simp
   have hy:=J8 s.body O.body.1 O.body.2 U5.length;have hYb:∀l,Yb S l→l<U6.length:=by rintro l (rfl|rfl);exact glt B6.b0;exact glt B6.b1
   have scY:=hsc.yb B6.st;have lS5:=B5.st.k.len;simp;refine Qp (jZ c ok w n h2 F3 D3 v ts (qk s.body) 187 [.ptr U5.length 0 0 1] U5.length _ hy (by simp) U6 B6.wk (Yb S) hYb scY c6 (B5.wk.out ok (qpo _)) (by omega)) (qd0 ok B6.wk hYb scY _ (qm7 ok _ B6.wk.cn)) ?_;rintro r U7 ⟨t,F4,D4,hts,k7,s7,sc7⟩;have htl:=Sco.len_of hts;have hscx:Scx (t::ts)=qd (qk s.body) n::Scx ts:=by simp only[Scx,qpv,hts]
   have B7:=B6.step k7 s7;simp;have q3:=Yt c ok w s.body false IHb hbl _ _ F4 D4 U7 r (t::ts) B7.wk (sc7.sub fun l hl=>hl.imp id .inl) (by rw[hscx];exact zz _ _ _) (by omega);rw[hscx] at q3;refine Qp q3 (Wd.some ok B7.wk _ (qmP ok _ _ B7.wk.cn) _) ?_;rintro r3 U10 ⟨rfl,F6,D6,k10,s10⟩;have B10:=B7.step k10 s10;obtain ⟨y4,hy4⟩:∃y4:Sm,y4=.mk (Jj c.toPw (Scx ts) s.labels) s.kind s.text (Ex.wrl c.toPw (Scx ts) true s.targets) s.exps s.elems s.decls (Sm.wrl c.toPw (qd (qk s.body) n::Scx ts) (n+t.length) s.body):=⟨_,rfl⟩;have hy4v:V.agg [.sl false (y2.labels.map .str),.int .i64 y2.kind,.str y2.text,.sl false (y2.targets.map Ex.v),.sl false (y2.exps.map Ex.v),.sl false (y2.elems.map El.v),.sl false (y2.decls.map De.v),.sl false ((Sm.wrl c.toPw (qd (qk s.body) n::Scx ts) (n+t.length) s.body).map Sm.v)]=y4.v:=by rw[smV,hy2,hy4];rfl
   have B11:=B10.put ok y4;simp[stS,B10.b0,Ze,qi,Yc,Qe,QN,ldS,B5.b0,B6.b0,B7.b0,t2];rw[hy4v];generalize U10.set S.length (.arr [y4.v] 8 1)=U11 at B11 ⊢;have k4:y4.kind=8:=by rw[hy4,←h8];rfl
   simp[ldS,B11.b0,B11.b1,k4,stS,qi];rw[hw,hh,hnb,←htl,←hy4,show n+((qd (qk s.body) 0).length+Sm.nbl s.body)=n+t.length+Sm.nbl s.body by omega];exact B11.fin ok rfl
  rw[if_neg h7,if_neg h8] at hw hh hnb;simp[h7,h8,ldS,B5.b0,x2];refine qj (JZ c ok w s.exps (by omega) n h2 F3 D3 U5 v ts false B5.wk (hsc.step B5.st)) ?_;rintro r U6 ⟨rfl,F4,D4,k6,s6⟩;have B6:=B5.step k6 s6;obtain ⟨y3,hy3⟩:∃y3:Sm,y3=.mk (Jj c.toPw (Scx ts) s.labels) s.kind s.text (Ex.wrl c.toPw (Scx ts) true s.targets) (Ex.wrl c.toPw (Scx ts) false s.exps) s.elems s.decls s.body:=⟨_,rfl⟩;have hy3v:V.agg [.sl false (y2.labels.map .str),.int .i64 y2.kind,.str y2.text,.sl false (y2.targets.map Ex.v),.sl false ((Ex.wrl c.toPw (Scx ts) false s.exps).map Ex.v),.sl false (y2.elems.map El.v),.sl false (y2.decls.map De.v),.sl false (y2.body.map Sm.v)]=y3.v:=by rw[smV,hy2,hy3];rfl
  have B7:=B6.put ok y3;simp[stS,B6.b0,Ze,qi];rw[hy3v];generalize U6.set S.length (.arr [y3.v] 8 1)=U7 at B7 ⊢;have l3:y3.elems=s.elems:=by rw[hy3];rfl
  simp[ldS,B7.b0,l3];refine qj (qjw c ok w s.elems (by omega) n _ F4 D4 U7 v ts B7.wk (hsc.step B7.st)) ?_;rintro r U8 ⟨rfl,F5,D5,k8,s8⟩;have B8:=B7.step k8 s8;obtain ⟨y4,hy4⟩:∃y4:Sm,y4=.mk (Jj c.toPw (Scx ts) s.labels) s.kind s.text (Ex.wrl c.toPw (Scx ts) true s.targets) (Ex.wrl c.toPw (Scx ts) false s.exps) (El.wrl c.toPw (Scx ts) s.elems) s.decls s.body:=⟨_,rfl⟩;have hy4v:V.agg [.sl false (y3.labels.map .str),.int .i64 y3.kind,.str y3.text,.sl false (y3.targets.map Ex.v),.sl false (y3.exps.map Ex.v),.sl false ((El.wrl c.toPw (Scx ts) s.elems).map El.v),.sl false (y3.decls.map De.v),.sl false (y3.body.map Sm.v)]=y4.v:=by rw[smV,hy3,hy4];rfl
  have B9:=B8.put ok y4;simp[stS,B8.b0,Ze,qi];rw[hy4v];generalize U8.set S.length (.arr [y4.v] 8 1)=U9 at B9 ⊢;have b4:y4.body=s.body:=by rw[hy4];rfl
  simp[ldS,B9.b0,b4];refine qj (Yp c ok w s.body false IHb hbl hokb n _ F5 D5 U9 v ts B9.wk (hsc.step B9.st) (by omega)) ?_;rintro r U10 ⟨rfl,F6,D6,k10,s10⟩;have B10:=B9.step k10 s10;obtain ⟨y5,hy5⟩:∃y5:Sm,y5=.mk (Jj c.toPw (Scx ts) s.labels) s.kind s.text (Ex.wrl c.toPw (Scx ts) true s.targets) (Ex.wrl c.toPw (Scx ts) false s.exps) (El.wrl c.toPw (Scx ts) s.elems) s.decls (Sm.wr1 c.toPw (Scx ts) n s.body):=⟨_,rfl⟩;have hy5v:V.agg [.sl false (y4.labels.map .str),.int .i64 y4.kind,.str y4.text,.sl false (y4.targets.map Ex.v),.sl false (y4.exps.map Ex.v),.sl false (y4.elems.map El.v),.sl false (y4.decls.map De.v),.sl false ((Sm.wr1 c.toPw (Scx ts) n s.body).map Sm.v)]=y5.v:=by rw[smV,hy4,hy5];rfl
  have B11:=B10.put ok y5;simp[stS,B10.b0,Ze,qi];rw[hy5v];generalize U10.set S.length (.arr [y5.v] 8 1)=U11 at B11 ⊢;have k5:y5.kind=s.kind:=by rw[hy5];rfl
  have t5:y5.text=s.text:=by rw[hy5];rfl
  obtain ⟨h3,hh3⟩:∃h3,h3=Sm.hs1 c.toPw (Scx ts) n (El.hsl c.toPw (Scx ts) (Ex.hsl c.toPw (Scx ts) false h2 s.exps) s.elems) s.body:=⟨_,rfl⟩;rw[←hh3] at B11 hh;rw[hw,hh,hnb];by_cases h6:s.kind=6
  case neg=>
   simp[ldS,B11.b0,B11.b1,k5,h6,stS,qi];have e1:c.toPw.clE (Scx ts) s.kind s.text=s.text:=by unfold Pw.clE;rw[if_neg h6]
   have e2:c.toPw.clS (Scx ts) s.kind h3 s.text=h3:=by unfold Pw.clS;rw[if_neg h6]
   rw[e1,e2,←hy5];exact B11.fin ok rfl
  have tw:=B11.wk.tw;unfold wkr at tw;have smT:∀z:Bz,V.agg [.sl false (y5.labels.map .str),.int .i64 y5.kind,.str z,.sl false (y5.targets.map Ex.v),.sl false (y5.exps.map Ex.v),.sl false (y5.elems.map El.v),.sl false (y5.decls.map De.v),.sl false (y5.body.map Sm.v)]=(Sm.mk (Jj c.toPw (Scx ts) s.labels) s.kind z (Ex.wrl c.toPw (Scx ts) true s.targets) (Ex.wrl c.toPw (Scx ts) false s.exps) (El.wrl c.toPw (Scx ts) s.elems) s.decls (Sm.wr1 c.toPw (Scx ts) n s.body)).v:=fun z=>by rw[smV,hy5];rfl
  have hsc3:=hsc.step B11.st
  cases hcl:c.cl with
  | none=>
   have hfc:c.fc=.nilfn:=by have:=ok.cl;rw[hcl] at this;exact this
   rw[hfc] at tw;have hfind:=JU hsc3 s.text;have e2:c.toPw.clS (Scx ts) s.kind h3 s.text=h3:=by unfold Pw.clS;rw[hcl];simp
   have e1:c.toPw.clE (Scx ts) s.kind s.text=ZO c.toPw (Scx ts) s.text:=by unfold Pw.clE;rw[if_pos h6,hcl]
   rw[e1,e2];have hat:=Jf ts s.text
   cases hf:fnd ts s.text with
   | none=>
    have hr:ZO c.toPw (Scx ts) s.text=s.text:=by unfold ZO;rw[hat,hf];rfl
    have hv:YD ts s.text=.nilp:=by simp[YD,hf]
    rw[hv] at hfind;rw[hr,←hy5];simp[ldS,B11.b0,k5,t5,h6,zQ,tw,yl,eqV];refine qg hfind ?_;simp[ldS,B11.b0,B11.b1,yl,eqV,stS,qi];exact B11.fin ok rfl
   | some q=>
    have hr:ZO c.toPw (Scx ts) s.text=c.f q.1 s.text:=by unfold ZO;rw[hat,hf];rfl
    have hv:YD ts s.text=.ptr q.2 0 0 1:=by simp[YD,hf]
    rw[hv] at hfind;have hq:=hsc3.fnd_get hf;unfold plc at hq;rw[hr];simp[ldS,B11.b0,k5,t5,h6,zQ,tw,yl,eqV];refine qg hfind ?_;obtain ⟨z,hz⟩:∃z:Sm,z=.mk (Jj c.toPw (Scx ts) s.labels) s.kind (c.f q.1 s.text) (Ex.wrl c.toPw (Scx ts) true s.targets) (Ex.wrl c.toPw (Scx ts) false s.exps) (El.wrl c.toPw (Scx ts) s.elems) s.decls (Sm.wr1 c.toPw (Scx ts) n s.body):=⟨_,rfl⟩;have hzv:=smT (c.f q.1 s.text);rw[←hz] at hzv;have B12:=B11.put ok z;rw[h6] at hz;rw[←hz];rw[k5,h6] at hzv;simp[ldS,B11.b0,yl,eqV,zQ,hq,stS,Ze,qi,k5,h6];rw[hzv];generalize U11.set S.length (.arr [z.v] 8 1)=U12 at B12 ⊢;simp[ldS,B12.b0,stS,B12.b1,qi];exact B12.fin ok rfl
  | some g=>
   have hcb:=ok.cl;rw[hcl] at hcb;obtain ⟨kf,cs,hfc,hsp⟩:=hcb;rw[hfc] at tw;have e2:c.toPw.clS (Scx ts) s.kind h3 s.text=c.clH h3 s.text (Scx ts):=by unfold Pw.clS;rw[if_pos h6,hcl]
   have e1:c.toPw.clE (Scx ts) s.kind s.text=g s.text (Scx ts):=by unfold Pw.clE;rw[if_pos h6,hcl]
   rw[e1,e2];have hsp3:=hsp U11 s.text v ts w h3 F6 D6 hsc3 B11.wk.st;obtain ⟨Fi,Di,Ui,hi⟩:=ok.real B11.wk.st (c.clH h3 s.text (Scx ts));simp[ldS,B11.b0,k5,t5,h6,zQ,tw,yl,eqV];refine Qp hsp3 ⟨_,Ui,rfl,Fi,Di,hi⟩ ?_;rintro r U12 ⟨rfl,F7,D7,q1,q2,q3,q4⟩;obtain ⟨k12,s12⟩:=B11.wk.call ok (ok.cc _ _ B11.wk.cn) q1 q2 q3 q4;have B12:=B11.step k12 s12;obtain ⟨z,hz⟩:∃z:Sm,z=.mk (Jj c.toPw (Scx ts) s.labels) s.kind (g s.text (Scx ts)) (Ex.wrl c.toPw (Scx ts) true s.targets) (Ex.wrl c.toPw (Scx ts) false s.exps) (El.wrl c.toPw (Scx ts) s.elems) s.decls (Sm.wr1 c.toPw (Scx ts) n s.body):=⟨_,rfl⟩;have hzv:=smT (g s.text (Scx ts));rw[←hz] at hzv;have B13:=B12.put ok z;rw[h6] at hz;rw[←hz];rw[k5,h6] at hzv;simp[stS,B12.b0,Ze,qi,Yc,Qe,k5,h6];rw[hzv];generalize U12.set S.length (.arr [z.v] 8 1)=U13 at B13 ⊢;simp[ldS,B13.b0,stS,B13.b1,qi];exact B13.fin ok rfl
theorem qco(c:Cb)(ok:c.Ok)(w:Nat)(s:Sm)(hs:s.ok)(hsz:(Pa.st s).size≤4000)(h:c.H)(F D:Np)(S:St)(hk:Wk c w 0 h F D S)(hn:Sm.nb1 [s]≤c.lim):
  qt prog 62 [.ptr w 0 0 1,s.v] S (fun r U=>Wd c w (Sm.nb1 [s]) (s.wholeH c.toPw h) F D S (s.wholeR c.toPw).v r U):=by
 refine qt.ib func62 ok62 ?_;obtain ⟨S1,hS1⟩:∃S1:St,S1=S++[.arr [s.v] 8 1,.arr [smZ] 8 1]:=⟨_,rfl⟩;have b0:S1[S.length]?=some (.arr [s.v] 8 1):=by rw[hS1,qpj (by omega)];simp
 have b1:S1[S.length+1]?=some (.arr [smZ] 8 1):=by rw[hS1,qpj (by omega)];simp
 have k1:Wk c w 0 h F D S1:=by rw[hS1];exact hk.push ok _
 have s1:Stp w F D S F D S1:=by rw[hS1];exact (Stp.refl _ _ _ _).push _
 have hf:=Sm.fits1 s;simp[c62,qM,ldS,qi,Sm.fits1];rw[←hS1];have q:=Yp c ok w [s] true (fun x hx=>by simp at hx;subst hx;exact qbL c ok w 4000 x hsz (by omega) hs) (by simp) (fun x hx=>by simp at hx;subst hx;exact hs) 0 h F D S1 .nilp [] k1 rfl (by omega);simp only[qpv,qqw,qqk] at q;refine qj q ?_;rintro r U ⟨rfl,F2,D2,k2,s2⟩;have o1:Off w F D (S.length+1):=hk.out ok (by omega);have l1:S.length+1<S1.length:=glt b1;have c1:=s2.at o1 b1;have p1:=o1.next l1 s2;have he:Sm.wr1 c.toPw (Scx []) 0 [s]=[s.wholeR c.toPw]:=by simp only[Sm.wr1,Sm.wholeR,Scx,qqw,qqk]
 have he2:Sm.hs1 c.toPw (Scx []) 0 h [s]=s.wholeH c.toPw h:=by simp only[Sm.hs1,Sm.wholeH,Scx,qqw,qqk]
 rw[he2] at k2;rw[he];simp only[qpv,qqw];have hia:iaS U 8 (.sl false [(s.wholeR c.toPw).v]) 0=some (.iptr (s.wholeR c.toPw).v 0):=by simp[iaS]
 simp[hia,ldS,stS,c1,qi];have hz:(U.set (S.length+1) (.arr [(s.wholeR c.toPw).v] 8 1))[S.length+1]?=some (.arr [(s.wholeR c.toPw).v] 8 1):=qpl (glt c1);exact qf (vs:=[(s.wholeR c.toPw).v]) (by simp[rvs,ldS,hz]) ⟨rfl,F2,D2,k2.set ok _ p1.1 p1.2.1 p1.2.2,(s1.trans s2).set _ (by omega)⟩
def yT(k:Nat):Bz:=⟨⟨[35]⟩⟩++⟨(dig k).toArray⟩
theorem YV:∀(m n:Nat),n≤m→(dig n).length≤n+1
 | 0,n,h=>by rw[yD (by omega)];simp
 | m+1,n,h=>by
  by_cases hn:n<10
  ·rw[yD hn];simp
  ·rw[QJ hn,qpw];have:=YV m (n / 10) (by omega);simp only[qpF,qqj];omega
theorem qku(p k:Nat)(x y:Bz)(hk:k≤100000)(U:St)(hp:U[p]?=some (plc x k y)):qt prog 128 [.ptr p 0 0 1] U (fun _ U'=>U'=U.set p (plc x k (yT k))):=by
 refine qt.ib func128 ok128 ?_;unfold plc at hp ⊢;simp[c128,zQ,ldS,hp];refine qj (qes k (by omega) U) ?_;rintro r U2 ⟨rfl,rfl⟩
 have hs:qbO .add ⟨⟨[35]⟩⟩ ⟨(dig k).toArray⟩=some (.str (yT k)):=by
  have:=YV k k (qpo _);unfold qbO yT;rw[if_pos];show (((⟨⟨[35]⟩⟩:Bz).size+(⟨(dig k).toArray⟩:Bz).size:Nat):Int)≤9223372036854775807;have h1:(⟨⟨[35]⟩⟩:Bz).size=1:=rfl;have h2:(⟨(dig k).toArray⟩:Bz).size=(dig k).length:=by simp[ByteArray.size]
  omega
 simp[zQ,stS,hp,qi,hs];exact qv rfl rfl
def nuP(f:Nat→Bz):Pw where
 H:=Unit
 f k _:=f k
 nm:=none
 cl:=none
 ent _ _ _:=()
 nmH _ _ _ _:=()
 clH _ _ _:=()
def nuC:Cb where
 toPw:=nuP yT
 fe:=.fn (.func 128) [] []
 fn:=.nilfn
 fc:=.nilfn
 I _ F D _:=∀l,¬ F l∧¬ D l
 cn _ _:=True
 lim:=100001
theorem qng:nuC.Ok where
 lim:=qpo _
 lt hI l hl:=hl.elim (fun hf=>absurd hf (hI l).1) fun hd=>absurd hd (hI l).2
 fr hI _ _:=hI
 lp hI l _ _:=hI l
 ce _ _:=trivial
 cm _ _ _ _:=trivial
 cc _ _ _:=trivial
 real {h F D S} hI h':=⟨F,D,S,hI,Kp.refl _ _,grow.refl _ _,grow.refl _ _⟩
 en:=.inr ⟨128,[],rfl,fun U p k x h F D hp hF hD hk _ hI=>by
  refine qt.mono (qku p k x x (Nat.le_of_lt_succ hk) U hp) fun v U' hU=>?_
  subst hU;exact ⟨F,D,hI,qpl (qpi.1 hp).1,(Kp.refl _ _).set _ (.inl (.inl rfl)),grow.refl _ _,fun _ h=>.inl h⟩⟩
 nm:=rfl
 cl:=rfl
theorem qim(s:Sm)(hs:s.ok)(hsz:(Pa.st s).size≤4000)(hn:Sm.nb1 [s]≤100000)(S:St):qt prog 70 [s.v] S (fun r U=>r=(s.wholeR (nuP yT)).v∧Kp (fun _=>False) S U):=by
 refine qt.ib func70 ok70 ?_;simp[c70,qM,ldS,qi,qY,qF];obtain ⟨S1,hS1⟩:∃S1:St,S1=S++[.arr [s.v] 8 1,.arr [smZ] 8 1,.arr [.agg [.int .i64 0,.fn (.func 128) [] [],.nilfn,.nilfn]] 4 1]:=⟨_,rfl⟩;rw[←hS1];have b1:S1[S.length+1]?=some (.arr [smZ] 8 1):=by rw[hS1,qpj (by omega)];simp
 have b2:S1[S.length+2]?=some (wkr nuC 0):=by rw[hS1,qpj (by omega)];simp[wkr,nuC]
 have l1:S1.length=S.length+3:=by rw[hS1];simp
 have kS:Kp (fun _=>False) S S1:=by rw[hS1];exact (Kp.refl _ _).push _
 refine qj (qco nuC qng (S.length+2) s hs hsz () (fun _=>False) (fun _=>False) S1 ⟨b2,fun _=>⟨id,id⟩,id,id,trivial⟩ (Nat.le_succ_of_le hn)) ?_;rintro r U ⟨rfl,F2,D2,k2,s2⟩;have c1:=s2.k.at b1 (by rintro (hh|hh);omega;exact hh);simp[stS,c1,qi];have hz:(U.set (S.length+1) (.arr [(s.wholeR nuC.toPw).v] 8 1))[S.length+1]?=some (.arr [(s.wholeR nuC.toPw).v] 8 1):=qpl (glt c1);refine qf (vs:=[(s.wholeR nuC.toPw).v]) (by simp[rvs,ldS,hz]) ⟨rfl,Kp.set ⟨qpV kS.len s2.k.len,fun l hl hn=>?_⟩ _ (.inr (by omega))⟩;rw[s2.k.get l (by omega) (by rintro (hh|hh);omega;exact hh)];exact kS.get l hl hn
theorem qgd(a b:Sm):qY (V.agg [V.sl true [],V.int IntKind.i64 0,V.str ⟨⟨[]⟩⟩,V.sl true [],V.sl true [],V.sl true [],V.sl true [],V.sl true [],V.sl true [],V.int IntKind.i64 0,V.str ⟨⟨[]⟩⟩,V.sl true [],V.sl true [],V.sl true [],V.sl true [],V.sl true []]) [(0,8,a.v),(8,8,b.v)]=some (.agg (a.v.cells++b.v.cells)):=by
 simp[qY,qi]
theorem qho(a b:Sm)(i:Nat)(hi:i<2):V.part (.agg (a.v.cells++b.v.cells)) (i * 8) (some 8)=some (if i=0 then a.v else b.v):=by
 have h:i=0∨i=1:=by omega
 rcases h with rfl|rfl
 ·rw[Qi,Sm.v_cells,Sm.v_cells,Sm.v_eq a];simp
 ·rw[Qi,Sm.v_cells,Sm.v_cells,Sm.v_eq b];simp
open Classical in
theorem qnw(a b:Sm)(ha:a.ok)(hb:b.ok)(za:(Pa.st a).size≤4000)(zb:(Pa.st b).size≤4000)(hn:Sm.nb1 [a]≤100000)(hm:Sm.nb1 [b]≤100000)(na:(Pa.st a).err qb=0→(a.wholeR (nuP yT)).ok)(S:St):
  qt prog 24 [a.v,b.v] S (fun r U=>r=.tup [.bool (decide ((Pa.st a).err qb=0∧(Pa.st b).err qb=0∧a.wholeR (nuP yT)=b.wholeR (nuP yT))),.int .i64 (if (Pa.st a).err qb=0 then (Pa.st b).err qb else (Pa.st a).err qb)]∧Kp (fun _=>False) S U):=by
 refine qt.ib func24 ok24 ?_;obtain ⟨S1,hS1⟩:∃S1:St,S1=S++[.arr [a.v] 8 1,.arr [b.v] 8 1]:=⟨_,rfl⟩;have b0:S1[S.length]?=some (.arr [a.v] 8 1):=by rw[hS1,qpj (by omega)];simp
 have b1:S1[S.length+1]?=some (.arr [b.v] 8 1):=by rw[hS1,qpj (by omega)];simp
 have kS:Kp (fun _=>False) S S1:=by rw[hS1];exact (Kp.refl _ _).push _
 simp[c24,qM,ldS,qF];rw[qgd];rw[←hS1];obtain ⟨ab,hab⟩:∃ab,ab=V.agg (a.v.cells++b.v.cells):=⟨_,rfl⟩;have hagg:ab.isAgg=true:=by rw[hab];rfl
 rw[←hab];simp;refine qO (fun e U=>(Pa.st a).err qb=0∧(Pa.st b).err qb=0∧Kp (fun _=>False) S1 U∧e.get 2=some (.ptr S.length 0 0 1)∧e.get 3=some (.ptr (S.length+1) 0 0 1)) ?_ ?_
 ·refine qw (fun j e U=>∃i:Nat,j=2 - i∧i≤2∧(1≤i→(Pa.st a).err qb=0)∧(2≤i→(Pa.st b).err qb=0)∧Kp (fun _=>False) S1 U∧
   e=[(12,.int .i64 i),(11,ab),(2,.ptr S.length 0 0 1),(3,.ptr (S.length+1) 0 0 1)]) 2 _ ?_ ⟨0,by simp,by omega,by omega,by omega,Kp.refl _ _,rfl⟩ ?_
  ·exact Env.so (by simp)
  rintro j e U ⟨i,rfl,hi,h1,h2,hk,rfl⟩;by_cases hlt:i<2
  ·have hp:=qho a b i hlt;obtain ⟨y,hy⟩:∃y:Sm,y=if i=0 then a else b:=⟨_,rfl⟩
   rw[←hab] at hp;have hyv:(if i=0 then a.v else b.v)=y.v:=by rw[hy];split <;> rfl
   rw[hyv] at hp;have hyo:y.ok:=by rw[hy];split <;> assumption
   have hi2:(i:Int)<2:=by omega
   simp[hi2,evX,hp,hagg,qM,stS,qi,ldS];refine qg (qbZ y hyo _) ?_;by_cases he:(Pa.st y).err qb=0
   ·simp[he,ze (n:=(i:Int)+1)];refine ⟨_,?_,_,?_,i+1,rfl,by omega,fun hh=>?_,fun hh=>?_,hk.push _,rfl⟩
    ·omega
    ·exact Env.so (by simp)
    ·by_cases h0:i=0
     ·rw[if_pos h0] at hy;rw[←hy];exact he
     ·exact h1 (by omega)
    ·rw[if_neg (by omega)] at hy;rw[←hy];exact he
   ·simp[he,jh];refine qf rfl ?_;refine ⟨?_,(kS.trans hk).push _⟩;by_cases h0:i=0
    ·rw[if_pos h0] at hy;rw[hy] at he ⊢;simp[qp,he]
    ·rw[if_neg h0] at hy;rw[hy] at he ⊢;simp[qp,he,h1 (by omega)]
  ·have:i=2:=by omega
   subst this;simp;exact ⟨h1 (by omega),h2 (by omega),hk⟩
 rintro e U ⟨h1,h2,hk,g2,g3⟩;have c0:=hk.at b0 id;have c1:=hk.at b1 id;simp[g2,g3,ldS,c0];refine Qp (qim a ha za hn U) ⟨_,U,rfl,Kp.refl _ _⟩ ?_;rintro r U2 ⟨rfl,k2⟩;have d0:=k2.at c0 id;have d1:=k2.at c1 id;simp[Sm.fits1,g3,ldS,d1];refine Qp (qim b hb zb hm U2) ⟨_,U2,rfl,Kp.refl _ _⟩ ?_;rintro r U3 ⟨rfl,k3⟩;have q:=qmg [a.wholeR (nuP yT)] [b.wholeR (nuP yT)] (by unfold B50;simp) ⟨na h1,trivial⟩ U3;simp only[qpv,qqw] at q
 have q':Fn prog 69 [.sl true [(a.wholeR (nuP yT)).v],.sl true [(b.wholeR (nuP yT)).v]] U3 (.bool (decide ([a.wholeR (nuP yT)]=[b.wholeR (nuP yT)]))):=by
  refine qt.weakA ?_;simp only[V.weakL,V.weak,Sm.v_weak];exact q
 simp[Sm.fits1];refine qab q' ?_;simp[Yc,Qe,QN,ldS,g3,c1,d1];exact qf rfl ⟨by simp[qp,h1,h2],(kS.trans hk).trans (k2.trans k3)⟩
end Go.Proofs.YtbifpocccfkhhaaGreatDoor
