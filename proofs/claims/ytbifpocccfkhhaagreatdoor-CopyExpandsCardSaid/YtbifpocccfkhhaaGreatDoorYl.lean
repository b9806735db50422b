/- A part. -/
import Derived.Test.YtbifpocccfkhhaaGreatDoorYk
set_option linter.all false
noncomputable section
namespace Go.Proofs.YtbifpocccfkhhaaGreatDoor
open Go
def Gx(sz n0 w:Nat)(F D:Np)(xs:List V)(v:V)(S:St):Prop:=(∃b,v=.sl b xs)\/Gw sz n0 w F D xs v S
def Gw.wK{sz n0 w:Nat}{F D:Np}{xs:List V}{v:V}{S:St}(h:Gw sz n0 w F D xs v S):v.cells=[v]/\v.flat=true/\v.size=1:=by
 rcases h with ⟨rfl,rfl⟩|⟨l,wr,h1,h2,rfl,h4,h5⟩<;>exact⟨rfl,rfl,rfl⟩
def Gx.wK{sz n0 w:Nat}{F D:Np}{xs:List V}{v:V}{S:St}(h:Gx sz n0 w F D xs v S):v.cells=[v]/\v.flat=true/\v.size=1:=by
 rcases h with ⟨b,rfl⟩| h
 .exact⟨rfl,rfl,rfl⟩
 .exact h.wK
def Gw.ne{sz sz' n0 GR w w':Nat}{F D F' D':Np}{xs xs':List V}{v v':V}{S:St}(h:Gw sz n0 w F D xs v S)(h':Gw sz' GR w' F' D' xs' v' S)(hs:sz≠sz'):∀l a b c a' b' c',v=.arr l a b c->v'≠.arr l a' b' c':=by
 rintro l a b c a' b' c' rfl rfl;rcases h with ⟨_,h⟩|⟨l',wr,h1,h2,h3,h4,h5⟩
 .cases h
 .cases h3;rcases h' with ⟨_,h⟩|⟨l',wr',g1,g2,g3,g4,g5⟩
  .cases h
  .cases g3;rw[h4]at g4;cases g4;exact hs rfl
def Gx.ne{sz sz' n0 GR w w':Nat}{F D F' D':Np}{xs xs':List V}{v v':V}{S:St}(h:Gx sz n0 w F D xs v S)(h':Gx sz' GR w' F' D' xs' v' S)(hs:sz≠sz'):∀l a b c a' b' c',v=.arr l a b c->v'≠.arr l a' b' c':=by
 intro l a b c a' b' c' hv eV;rcases h with ⟨_,h⟩| h
 .rw[hv]at h;cases h
 .rcases h' with ⟨_,h'⟩|h'
  .rw[eV]at h';cases h'
  .exact h.ne h' hs l a b c a' b' c' hv eV
def Nf(rf v:V):Prop:=∀l a b c,rf=.arr l a b c->∀xs wr,v.du l xs wr=v
def Nf.under{rf v:V}(h:v.under 0=true):Nf rf v:=λ_ _ _ _ _ _ _=>V.Qp v h
def Nf.gx{sz sz' n0 GR w w':Nat}{F D F' D':Np}{xs xs':List V}{v v':V}{S:St}(h:Gx sz n0 w F D xs v S)(h':Gx sz' GR w' F' D' xs' v' S)(hs:sz≠sz')(hx:V.dr 0 xs'=true):Nf v v':=by
 intro l a b c hv ys wr;rcases h' with ⟨b',rfl⟩|h'
 .exact V.Qp _ (by simpa[V.under]using hx)
 .rcases h' with ⟨_,rfl⟩|⟨l',wr',g1,g2,rfl,g4,g5⟩
  .rfl
  .have:=h.ne (sz':=sz') (GR:=GR) (w':=w') (F':=F') (D':=D') (xs':=xs') (v':=.arr l' 0 xs'.length xs'.length) (.inr (.inr ⟨l',wr',g1,g2,rfl,g4,g5⟩)) hs l a b c 0 xs'.length xs'.length hv;simp only[V.du];rw[au];rintro⟨rfl,_⟩;exact this rfl
def Gx.other{sz n0 w:Nat}{F D:Np}{xs:List V}{v:V}{S U:St}(h:Gx sz n0 w F D xs v S)(hk:∀l o,S[l]?=some o->(∀a b c,v=.arr l a b c->U[l]?=some o)):Gx sz n0 w F D xs v U:=h.imp id λh=>h.other hk
def Gx.du{w:Nat}{P:Np->Np->St->Prop}(fm:xC w P){sz n0:Nat}{F0 D0 F D:Np}{xs:List V}{rf:V}{S0 U:St}(h:Gx sz n0 w F D xs rf U)(k:P F D U)(s:bJ w F0 D0 S0 F D U)(hn:S0.length<=n0)(hx:V.dr 0 xs=true)(hw:V.cR xs=xs):
  ∃G4 U',G4.under 0=true/\G4.weak=ah xs/\(∀a b,(∀v,v∈a->Nf rf v)->(∀v,v∈b->Nf rf v)->dJ S0.length (.agg (a++rf::b)) U (.agg (a++G4::b)) U')/\P F D U'/\bJ w F0 D0 S0 F D U'/\
   ∀l o,U[l]?=some o->(∀a b c,rf≠.arr l a b c)->U'[l]?=some o:=by
 have pure:∀b,rf=.sl b xs→_:=λb hb=>(⟨rf,U,by rw[hb];simpa[V.under] using hx,by rw[hb];simp[V.weak,hw],λ_ _ _ _=>dJ.refl _ _ _,k,s,λl o ho _=>ho⟩:
  ∃G4 U',G4.under 0=true/\G4.weak=ah xs/\(∀a b,(∀v,v∈a->Nf rf v)->(∀v,v∈b->Nf rf v)->dJ S0.length (.agg (a++rf::b)) U (.agg (a++G4::b)) U')/\P F D U'/\bJ w F0 D0 S0 F D U'/\
   ∀l o,U[l]?=some o->(∀a b c,rf≠.arr l a b c)->U'[l]?=some o)
 rcases h with ⟨b,rfl⟩| h
 .exact pure b rfl
 rcases h with ⟨rfl,rfl⟩|⟨l,wr,h1,h2,rfl,h3,h4⟩
 .exact pure true rfl
 .refine⟨ah xs,U.set l .dead,by simpa[V.under]using hx,by simp[V.weak,hw],λa b ha hb=>?_,fm.set k _ h2,s.set _ oM,λl' o ho bZ=>?_⟩
  .have g1:=dJ.It (n:=S0.length) (r:=.agg (a++.arr l 0 xs.length xs.length::b)) h3
   have hz:V.du l xs wr (.agg (a++.arr l 0 xs.length xs.length::b))=.agg (a++ah xs::b):=by
    have ea:a.map (V.du l xs wr)=a:=by
     conv=>rhs;rw[<-List.map_id a]
     exact rR λv hv=>ha v hv l _ _ _ rfl xs wr
    have eb:b.map (V.du l xs wr)=b:=by
     conv=>rhs;rw[<-List.map_id b]
     exact rR λv hv=>hb v hv l _ _ _ rfl xs wr
    simp only[V.du,oJ,cJ,cQ];rw[ea,eb,ak (by simp[h4])];simp
   rw[hz]at g1;exact g1
  .rw[bG (by rintro rfl;exact bZ _ _ _ rfl)];exact ho
def qn3{w:Nat}{P:Np->Np->St->Prop}(fm:xC w P){n0 n1:Nat}{F0 D0 F D:Np}{S0 U:St}{kd ty:Int}{ow:Bool}{nm:List Bz}{ex:List Ex}{fo:List Fo}{bo:List Sm}{nv fv:V}{c:Nat}{e:ae}{o:Nat}(hc:U[o]?=aJ [.agg [af kd,.bool ow,af ty,nv,ah (ex.map Ex.v),fv,ah (bo.map Sm.v)]] 7)(he:e.get c=some (ag o))
  (h1:Gx 1 n0 w F D (nm.map .str) nv U) (h2:Gx 4 n1 w F D (fo.map Fo.v) fv U) (hn:S0.length<=n0) (oN:S0.length<=n1) (k:P F D U) (s:bJ w F0 D0 S0 F D U):
  eN [.cell c (some 7)] S0.length (λr U=>nn w P F0 D0 S0 (De.mk kd ow ty nm ex fo bo).v r U) .ret e U:=by
 obtain⟨nv',U1,a1,a2,a3,a4,a5,a6⟩:=h1.du fm k s hn (by simpa[V.under]using ZR false nm) (oW nm);have IG:Gx 4 n1 w F D (fo.map Fo.v) fv U1:=h2.other λl o ho a b c hv=>a6 l o ho λa' b' c' hh=>h1.ne h2 oM l a' b' c' a b c hh hv
 obtain⟨fv',U2,b1,b2,b3,b4,b5,b6⟩:=IG.du fm a4 a5 oN (by simpa[V.under]using jS Fo.eE false fo) (ug fo)
 have g1:=a3 [af kd,.bool ow,af ty] [ah (ex.map Ex.v),fv,ah (bo.map Sm.v)] (by
  intro v hv;simp at hv
  rcases hv with rfl|rfl|rfl <;> exact Nf.under rfl) (by
  intro v hv;simp only[dU,yY,or_false]at hv;rcases hv with rfl|rfl|rfl
  .exact Nf.under (jS Ex.eE _ _)
  .exact Nf.gx h1 h2 oM (by simpa[V.under]using jS Fo.eE false fo)
  .exact Nf.under (jS Sm.eE _ _))
 have g2:=b3 [af kd,.bool ow,af ty,nv',ah (ex.map Ex.v)] [ah (bo.map Sm.v)] (by
  intro v hv;simp only[dU,yY,or_false]at hv;rcases hv with rfl|rfl|rfl|rfl|rfl
  .exact Nf.under rfl
  .exact Nf.under rfl
  .exact Nf.under rfl
  .exact Nf.under a1
  ·exact Nf.under (jS Ex.eE _ _)) (by
  intro v hv;simp only[dU,yY,or_false]at hv;subst hv;exact Nf.under (jS Sm.eE _ _))
 simp only[dR,ig]at g1 g2;refine⟨[_],by simp only[eL,he,ab,hc];rfl,_,U2,(g1.trans g2).trans dJ.weak,?_,F,D,b4,b5⟩;simp only[V.weak,V.cR,a2,b2,oq,nf,De.eW];rfl
def qn4{w:Nat}{P:Np->Np->St->Prop}(fm:xC w P){n0 n1 n2:Nat}{F0 D0 F D:Np}{S0 U:St}{kd:Int}{tx:Bz}{lb:List Bz}{tg ex:List Ex}{el:List El}{de:List De}{bo:List Sm}{lv ev dv:V}{c:Nat}{e:ae}{o:Nat}(hc:U[o]?=aJ [.agg [lv,af kd,.str tx,ah (tg.map Ex.v),ah (ex.map Ex.v),ev,dv,ah (bo.map Sm.v)]] 8)(he:e.get c=some (ag o))
  (h1:Gx 1 n0 w F D (lb.map .str) lv U) (h2:Gx 2 n1 w F D (el.map El.v) ev U) (h3:Gx 7 n2 w F D (de.map De.v) dv U) (hn:S0.length<=n0) (oN:S0.length<=n1) (qra:S0.length<=n2) (k:P F D U) (s:bJ w F0 D0 S0 F D U):
  eN [.cell c (some 8)] S0.length (λr U=>nn w P F0 D0 S0 (Sm.mk lb kd tx tg ex el de bo).v r U) .ret e U:=by
 have ul:V.dr 0 (lb.map .str)=true:=by simpa[V.under]using ZR false lb
 have ue:V.dr 0 (el.map El.v)=true:=by simpa[V.under]using jS El.eE false el
 have ud:V.dr 0 (de.map De.v)=true:=by simpa[V.under]using jS De.eE false de
 obtain⟨DY,U1,a1,a2,a3,a4,a5,a6⟩:=h1.du fm k s hn ul (oW lb);have IG:Gx 2 n1 w F D (el.map El.v) ev U1:=h2.other λl o ho a b c hv=>a6 l o ho λa' b' c' hh=>h1.ne h2 oM l a' b' c' a b c hh hv
 have II:Gx 7 n2 w F D (de.map De.v) dv U1:=h3.other λl o ho a b c hv=>a6 l o ho λa' b' c' hh=>h1.ne h3 oM l a' b' c' a b c hh hv
 obtain⟨ev',U2,b1,b2,b3,b4,b5,b6⟩:=IG.du fm a4 a5 oN ue (uf el);have qpU:Gx 7 n2 w F D (de.map De.v) dv U2:=II.other λl o ho a b c hv=>b6 l o ho λa' b' c' hh=>IG.ne II oM l a' b' c' a b c hh hv
 obtain⟨ti,U3,c1,c2,c3,c4,c5,c6⟩:=qpU.du fm b4 b5 qra ud (vJ de)
 have g1:=a3 [] [af kd,.str tx,ah (tg.map Ex.v),ah (ex.map Ex.v),ev,dv,ah (bo.map Sm.v)] (by intro v hv;simp at hv) (by
  intro v hv;simp only[dU,yY,or_false]at hv;rcases hv with rfl|rfl|rfl|rfl|rfl|rfl|rfl
  .exact Nf.under rfl
  .exact Nf.under rfl
  .exact Nf.under (jS Ex.eE _ _)
  .exact Nf.under (jS Ex.eE _ _)
  .exact Nf.gx h1 h2 oM ue
  .exact Nf.gx h1 h3 oM ud
  .exact Nf.under (jS Sm.eE _ _))
 have g2:=b3 [DY,af kd,.str tx,ah (tg.map Ex.v),ah (ex.map Ex.v)] [dv,ah (bo.map Sm.v)] (by
  intro v hv;simp only[dU,yY,or_false]at hv;rcases hv with rfl|rfl|rfl|rfl|rfl
  .exact Nf.under a1
  .exact Nf.under rfl
  .exact Nf.under rfl
  .exact Nf.under (jS Ex.eE _ _)
  ·exact Nf.under (jS Ex.eE _ _)) (by
  intro v hv;simp only[dU,yY,or_false]at hv;rcases hv with rfl|rfl
  .exact Nf.gx IG II oM ud
  .exact Nf.under (jS Sm.eE _ _))
 have g3:=c3 [DY,af kd,.str tx,ah (tg.map Ex.v),ah (ex.map Ex.v),ev'] [ah (bo.map Sm.v)] (by
  intro v hv;simp only[dU,yY,or_false]at hv;rcases hv with rfl|rfl|rfl|rfl|rfl|rfl
  .exact Nf.under a1
  .exact Nf.under rfl
  .exact Nf.under rfl
  .exact Nf.under (jS Ex.eE _ _)
  .exact Nf.under (jS Ex.eE _ _)
  ·exact Nf.under b1) (by
  intro v hv;simp only[dU,yY,or_false]at hv;subst hv;exact Nf.under (jS Sm.eE _ _))
 simp only[dR,ig]at g1 g2 g3;refine⟨[_],by simp only[eL,he,ab,hc];rfl,_,U3,((g1.trans g2).trans g3).trans dJ.weak,?_,F,D,c4,c5⟩;simp only[V.weak,V.cR,a2,b2,c2,oq,nf,Sm.eW];rfl
open Go.Proofs.Tryz
def Gw.Ec{sz sz' n0 w k wr:Nat}{F D:Np}{xs ys:List V}{v:V}{S:St}(h:Gw sz n0 w F D xs v S)(hk:S[k]?=some (.arr ys sz' wr))(hs:sz≠sz'):∀a b c,v≠.arr k a b c:=by
 rintro a b c rfl;rcases h with ⟨_,h⟩|⟨l',wr',h1,h2,h3,h4,h5⟩
 .cases h
 .cases h3;rw[hk]at h4;cases h4;exact hs rfl
def Gw.jp{sz sz' n0 w k wr:Nat}{F D:Np}{xs ys:List V}{v:V}{S:St}(h:Gw sz n0 w F D xs v S)(hk:S[k]?=some (.arr ys sz' wr))(hs:sz≠sz')(o:Ob):Gw sz n0 w F D xs v (S.set k o):=
 by
 rcases h with h|⟨l,wr',h1,h2,h3,h4,h5⟩
 .exact .inl h
 .exact .inr ⟨l,wr',h1,h2,h3,by rw[bG (by rintro rfl;rw[hk]at h4;cases h4;exact hs rfl)];exact h4,h5⟩
structure Cx(w sz:Nat)(P:Np->Np->St->Prop)(F D:Np)(S:St)(x z y:V)(F' D':Np)(U:St):Prop where
 rk:P F' D' U
 st:bJ w F D S F' D' U
 b0:U[S.length]?=aJ [x] sz
 b1:U[S.length+1]?=aJ [z] sz
 b2:U[S.length+2]?=aJ [y] sz
 o0:gy w F' D' S.length
 o1:gy w F' D' (S.length+1)
 o2:gy w F' D' (S.length+2)
section
variable {w sz:Nat} {P P2:Np->Np->St->Prop} {F D F' D' F2 D2:Np} {S U U2:St} {x z y:V}
theorem Cx.call(c:Cx w sz P F D S x z y F' D' U)(k:P2 F2 D2 U2)(s:bJ w F' D' U F2 D2 U2):Cx w sz P2 F D S x z y F2 D2 U2:=
 ⟨k,c.st.trans s,s.at c.o0 c.b0,s.at c.o1 c.b1,s.at c.o2 c.b2,c.o0.next (aR c.b0) s,c.o1.next (aR c.b1) s,c.o2.next (aR c.b2) s⟩
theorem Cx.fq(c:Cx w sz P F D S x z y F' D' U){gv:V}(k:P F' D' U2)(s:bJ w F D S F' D' U2)(ho:∀l o,U[l]?=some o->(∀a b c,gv≠.arr l a b c)->U2[l]?=some o)(hg:∀k ys wr,U[k]?=some (.arr ys sz wr)->∀a b c,gv≠.arr k a b c):Cx w sz P F D S x z y F' D' U2:=
 ⟨k,s,ho _ _ c.b0 (hg _ _ _ c.b0),ho _ _ c.b1 (hg _ _ _ c.b1),ho _ _ c.b2 (hg _ _ _ c.b2),c.o0,c.o1,c.o2⟩
theorem Cx.put(fm:xC w P)(c:Cx w sz P F D S x z y F' D' U)(y':V):Cx w sz P F D S x z y' F' D' (U.set (S.length+2) (.arr [y'] sz 1)):=
 ⟨fm.set c.rk _ c.o2,c.st.set _ oM,by rw[bG oM];exact c.b0,by rw[bG oM];exact c.b1,bO (aR c.b2),c.o0,c.o1,c.o2⟩
theorem Cx.push(fm:xC w P)(c:Cx w sz P F D S x z y F' D' U)(os:List Ob):Cx w sz P F D S x z y F' D' (U++os):=
 ⟨fm.push c.rk _,c.st.push _,ID c.b0,ID c.b1,ID c.b2,c.o0,c.o1,c.o2⟩
end
def EV(len:Nat)(A:Nat->V->Np->Np->St->Prop)(env:Nat->V->ae)(j:Nat)(e:ae)(U:St):Prop:=∃(i:Nat) (gv:V) (F' D':Np),j=len-i/\i<=len/\A i gv F' D' U/\e=env i gv
def CE(A:V->Np->Np->St->Prop)(env:V->ae)(e:ae)(U:St):Prop:=∃(gv:V) (F' D':Np),A gv F' D' U/\ae.sub (env gv) e
abbrev Ib:V:=zD
abbrev mq(d:De)(nv ev fv bv:V):V:=.agg [af d.kind,.bool d.own,af d.type,nv,ev,fv,bv]
def De.Og(r:Rp)(own sc:ai)(n:Nat)(d:De):d.rw r own sc n=if d.kind=4 then .mk d.kind d.own d.type (d.names.map (dX r own)) (Ex.b9 r own d.aw) (d.aj.map (Fo.rw r (ar (d.aj.map Fo.name) n::own))) (Sm.jR r (ar (d.aj.map Fo.name) n::own) (n+(ar (d.aj.map Fo.name) n).length) d.body)
  else .mk d.kind d.own d.type (d.names.map (dX r own)) (Ex.b9 r (if d.kind=2 then sc else own) d.aw) d.aj d.body:=by
 cases d;rw[De.rw];rfl
def De.Of(r:Rp)(own sc:ai)(n:Nat)(st:cd)(d:De):d.rs r own sc n st=if d.kind=4 then Sm.mb r (ar (d.aj.map Fo.name) n::own) (n+(ar (d.aj.map Fo.name) n).length) (Ex.bC r own st d.aw) d.body
  else Ex.bC r (if d.kind=2 then sc else own) st d.aw:=by
 cases d;rw[De.rs];rfl
def De.UZ(d:De):d.bn=if d.kind=4 then dk (d.aj.map Fo.name)++Sm.jk d.body else []:=by
 cases d;rw[De.bn];rfl
def map_take{α β:Type}(f:α->β)(l:List α)(i:Nat)(h:i<l.length):(l.take (i+1)).map f=(l.take i).map f++[f l[i]]:=by
 rw[dN,bX h,iP,cJ];rfl
def qR{U:St}{l sz:Nat}{cs:List V}{j:Nat}{v:V}(h:U[l]?=aJ [.agg cs] sz)(hv:v.cells=[v]/\v.flat=true/\v.size=1)(hj:j+1<=cs.length)(hc:cs.length≠1):aI U (eD l j) 1 v=some (U.set l (.arr [.agg (cs.take j++v::cs.drop (j+1))] sz 1)):=by
 have h0:¬(j=0/\1=cs.length):=λhh=>hc hh.2.symm
 simp[aI,h,aU,hv.1,hv.2.1,hv.2.2,hj,h0]
def Gx.jp{sz sz' n0 w k wr:Nat}{F D:Np}{xs ys:List V}{v:V}{S:St}(h:Gx sz n0 w F D xs v S)(hk:S[k]?=some (.arr ys sz' wr))(hs:sz≠sz')(o:Ob):Gx sz n0 w F D xs v (S.set k o):=h.imp id λh=>h.jp hk hs o
def Gw.nr{n0 w:Nat}{F D:Np}{names:List Bz}{v:V}{S:St}(h:Gw 1 n0 w F D (names.map .str) v S):Nr w F D names v S:=by
 rcases h with ⟨h1,rfl⟩|⟨l,wr,h1,h2,rfl,h4,h5⟩
 .rw[List.map_eq_nil_iff]at h1;subst h1;exact .inl ⟨true,rfl⟩
 .rw[bQ]at h5 |-;exact .inr ⟨l,wr,h2,rfl,h4,h5⟩
def qxL(r:Rp)(ho:za r)(bf bt:Bool)(w:Nat)(fv:V)(d:De)(H:∀s,s∈d.body->Fa r bf bt w fv s)(bF:(Pa.de d).size<=4000)(aD:List Bz)(st:cd)(F D:Np)(S:St)(b b':Bool)(sc own:ai)(hk:Rk r bf bt w fv aD st F D S)(ok:vZ aD st own d.nb (Pa.de d).size)(hd:uI sc)(qd:(ai.flat sc).length<=aD.length):
  aA prog 230 [ag w,d.v,.sl b ((ai.flat sc).map dB),.sl b' ((ai.flat own).map dB)] S (λv U=>nn w (Rk r bf bt w fv (aD++d.bn) (d.rs r own sc aD.length st)) F D S (d.rw r own sc aD.length).v v U):=by
 refine aA.ib qbK ?_;have Xc:=De.tR d;have my:=ok.bo;have jw:=ok.fr;have MX:=ok.fl;rw[De.Og,De.Of,De.UZ];rw[De.NQ]at my;have fm:=λbo s=>Rk.pZ r bf bt w fv bo s
 obtain⟨ev,lE⟩:=eX (V.sl false (d.aw.map Ex.v));obtain⟨xY,WS⟩:=eX (V.sl false (d.aj.map Fo.v));obtain⟨bv,L9⟩:=eX (V.sl false (d.body.map Sm.v));obtain⟨S2,lD⟩:=eX (α:=St) (S++[.arr [d.v] 7 1,.arr [Ib] 7 1,.arr [mq d sN ev xY bv] 7 1])
 have C0:Cx w 7 (Rk r bf bt w fv aD st) F D S d.v Ib (mq d sN ev xY bv) F D S2:=by
  refine⟨by rw[lD];exact(fm _ _).push hk _,by rw[lD];exact(bJ.refl _ _ _ _).push _,?_,?_,?_,(fm _ _).out hk oM,(fm _ _).out hk oM,(fm _ _).out hk oM⟩
  all_goals rw[lD,cx oM];simp
 have fin:∀{bo s F' D' U} (nm:List Bz) (ex:List Ex) (fo:List Fo) (bd:List Sm) (nv fx:V),Cx w 7 (Rk r bf bt w fv bo s) F D S d.v Ib (mq d nv (ah (ex.map Ex.v)) fx (ah (bd.map Sm.v))) F' D' U->Gx 1 S.length w F' D' (nm.map .str) nv U->Gx 4 S.length w F' D' (fo.map Fo.v) fx U->
   ab U (ag (S.length+2)) (some 7)=some (mq d nv (ah (ex.map Ex.v)) fx (ah (bd.map Sm.v)))/\∃U',aI U (ag (S.length+1)) 7 (mq d nv (ah (ex.map Ex.v)) fx (ah (bd.map Sm.v)))=some U'/\
   ∀e:ae,e.get 8=some (ag (S.length+1))->eN [.cell 8 (some 7)] S.length (λv U=>nn w (Rk r bf bt w fv bo s) F D S (De.mk d.kind d.own d.type nm ex fo bd).v v U) .ret e U':=by
  intro bo s F' D' U nm ex fo bd nv fx hC h1 h2;have f1:=h1.wK;have f2:=h2.wK;have hl:∀x:V,x.flat=true->True:=λ_ _=>trivial
  refine⟨by simp[ab,hC.b2,dL],U.set (S.length+1) (.arr [mq d nv (ah (ex.map Ex.v)) fx (ah (bd.map Sm.v))] 7 1),by simp[aI,hC.b1,aU,f1.2.1,f2.2.1],λe he=>?_⟩;exact qn3 (fm bo s) (bO (aR hC.b1)) he (h1.jp hC.b1 oM _) (h2.jp hC.b1 oM _) cz cz ((fm bo s).set hC.rk _ hC.o1) (hC.st.set _ oM)
 simp[qbK,aL,bI,aI,ab,OL,aU];rw[<-lE,<-WS,<-L9];rw[<-lD];obtain⟨A,hA⟩:∃A:Nat->V->Np->Np->St->Prop,∀i gv F' D' U,A i gv F' D' U↔(Cx w 7 (Rk r bf bt w fv aD st) F D S d.v Ib (mq d gv ev xY bv) F' D' U/\Gw 1 S.length w F' D' (((d.names.take i).map (dX r own)).map .str) gv U):=⟨_,λ_ _ _ _ _=>Iff.rfl⟩;refine eA (CE (A d.names.length) λ_=>[(0,ag w),(2,.sl b ((ai.flat sc).map dB)),(3,.sl b' ((ai.flat own).map dB)),(5,ag S.length),(8,ag (S.length+1)),(9,ag (S.length+2))]) ?_ ?_
 .refine cE (EV d.names.length A λi _=>[(10,af i),(0,ag w),(2,.sl b ((ai.flat sc).map dB)),(3,.sl b' ((ai.flat own).map dB)),(5,ag S.length),(8,ag (S.length+1)),(9,ag (S.length+2))]) d.names.length _ ?_ ⟨0,_,F,D,sM,oM,(hA _ _ _ _ _).2 ⟨C0,Gw.nil _ _ _ _ _ _⟩,rfl⟩ ?_
  .exact ba
  rintro j e U ⟨i,gv,F1,D1,rfl,hi,hI,rfl⟩;obtain⟨hC,hg⟩:=(hA _ _ _ _ _).1 hI;have hn:ab U (eD S.length 3) none=some (ah (d.names.map .str)):=by simp[ab,hC.b0]
  by_cases aB:i<d.names.length
  .have iq:=oR aB false U;have ME:ab U (eD (S.length+2) 3) none=some gv:=by simp[ab,hC.b2]
   have kG:fits 1 [V.str (dX r own d.names[i])]=true:=rfl;obtain⟨FO,U2,ha,iz,k2,s2,a5,a6⟩:=hg.xQ (fm aD st) (bytes:=16) (b:=true) (y:=.str (dX r own d.names[i])) hC.rk hC.st kG (by simp;omega);have C2:=hC.fq (gv:=gv) k2 s2 a5 λk ys wr cI=>hg.Ec cI oM
   have bg:=qR (j:=3) C2.b2 iz.wK sM sM;simp only[List.take,List.drop,dR,ig]at bg;have C3:=C2.put (fm aD st) (mq d FO ev xY bv);have gz:=iz.jp C2.b2 oM (.arr [mq d FO ev xY bv] 7 1);have hm:((d.names.take (i+1)).map (dX r own)).map V.str=((d.names.take i).map (dX r own)).map .str++[.str (dX r own d.names[i])]:=by rw[map_take _ _ _ aB,cJ];rfl
   rw[<-hm]at gz;simp[hn,aB,ME,iq,dK];refine nG (SZ r bf bt w fv aD st F1 D1 U hC.rk b' own ok.nd oM d.names[i]) ?_;simp[kG,ha,bg];simp[dP,eF,eZ,ME];simp[cG i];refine⟨_,?_,_,?_,i+1,FO,F1,D1,rfl,oM,(hA _ _ _ _ _).2 ⟨C3,gz⟩,rfl⟩
   .omega
   .exact ba
  .have:i=d.names.length:=oM;subst this;simp[hn];refine⟨gv,F1,D1,hI,?_⟩;exact ba
 rintro e U ⟨gv,F0,D0,hI,cZ⟩;obtain⟨hC,hg⟩:=(hA _ _ _ _ _).1 hI;rw[gu]at hg;have g0:e.get 0=_:=cZ 0 _ rfl;have g2:e.get 2=_:=cZ 2 _ rfl;have g3:e.get 3=_:=cZ 3 _ rfl;have g5:e.get 5=_:=cZ 5 _ rfl;have g8:e.get 8=_:=cZ 8 _ rfl;have g9:e.get 9=_:=cZ 9 _ rfl;have uW:ab U (ag S.length) none=some (af d.kind):=by simp[ab,hC.b0]
 have hxd:ab U (eD S.length 4) none=some ev:=by rw[lE];simp[ab,hC.b0]
 by_cases h2:d.kind=2
 .have h4:d.kind≠4:=oM;rw[au h4,au h4,au h4,ak h2,pR];simp[g0,g2,g5,g9,uW,hxd,h2];rw[lE];refine bE (Ov r ho bf bt w fv d.aw oM aD st F0 D0 U false b sc hC.rk hd oM oM) ?_;rintro v U2 ⟨rfl,F1,D1,k1,s1⟩;have C1:=hC.call k1 s1;have bg:=qR (j:=4) (v:=ah ((Ex.b9 r sc d.aw).map Ex.v)) C1.b2 ⟨rfl,rfl,rfl⟩ sM sM;simp only[List.take,List.drop,dR,ig]at bg;have C2:=C1.put (fm _ _) (mq d gv (ah ((Ex.b9 r sc d.aw).map Ex.v)) xY bv);have iz:=(hg.step s1).jp C1.b2 oM (.arr [mq d gv (ah ((Ex.b9 r sc d.aw).map Ex.v)) xY bv] 7 1);subst L9 WS;obtain⟨p1,U3,p2,p3⟩:=fin (d.names.map (dX r own)) (Ex.b9 r sc d.aw) d.aj d.body gv _ C2 (.inr iz) (.inl ⟨false,rfl⟩);simp[g8,g9,bg,p1,p2]
  first|exact p3 _ g8|(rw[h2]at p3;exact p3 _ g8)
 simp[g0,g3,g5,g9,uW,hxd,h2];rw[lE];refine bE (Ov r ho bf bt w fv d.aw oM aD st F0 D0 U false b' own hC.rk ok.nd oM oM) ?_;rintro v U2 ⟨rfl,F1,D1,k1,s1⟩;have C1:=hC.call k1 s1;obtain⟨tj,QR⟩:=eX (ah ((Ex.b9 r own d.aw).map Ex.v));have bg:=qR (j:=4) (v:=tj) C1.b2 (by rw[QR];exact⟨rfl,rfl,rfl⟩) sM sM;simp only[List.take,List.drop,dR,ig]at bg;have C2:=C1.put (fm _ _) (mq d gv tj xY bv);have iz:=(hg.step s1).jp C1.b2 oM (.arr [mq d gv tj xY bv] 7 1);rw[<-QR];obtain⟨U3,tn⟩:=eX (U2.set (S.length+2) (.arr [mq d gv tj xY bv] 7 1));rw[<-tn]at bg C2 iz;have uW:ab U3 (ag S.length) none=some (af d.kind):=by simp[ab,C2.b0]
 by_cases h4:d.kind=4
 case neg=>
  rw[au h4,au h4,au h4,pR]
  try simp only[au h2]
  subst L9 WS QR;obtain⟨p1,U4,p2,p3⟩:=fin (d.names.map (dX r own)) (Ex.b9 r own d.aw) d.aj d.body gv _ C2 (.inr iz) (.inl ⟨false,rfl⟩);simp[g5,g8,g9,bg,uW,h4,p1,p2];exact p3 _ g8
 rw[ak h4,ak h4,ak h4];rw[ak h4]at my;unfold De.Ek at my;obtain⟨fw,wZ⟩:=eX (Ex.bC r own st d.aw);have qfZ:=Ex.mc r own d.aw st;rw[<-wZ]at C2 qfZ |-;simp[g5,g9,bg,uW,h4];obtain⟨names,Gj⟩:=eX (d.aj.map Fo.name);have ym:names.length=d.aj.length:=by rw[Gj];simp
 obtain⟨B,hB⟩:∃A:Nat->V->Np->Np->St->Prop,∀i hv F' D' U,A i hv F' D' U↔(Cx w 7 (Rk r bf bt w fv aD fw) F D S d.v Ib (mq d gv tj xY bv) F' D' U/\Gw 1 S.length w F' D' ((d.names.map (dX r own)).map .str) gv U/\Gw 1 S.length w F' D' (((d.aj.take i).map Fo.name).map .str) hv U/\FA hv gv):=⟨_,λ_ _ _ _ _=>Iff.rfl⟩;refine eA (CE (B d.aj.length) λhv=>[(11,hv),(0,ag w),(3,.sl b' ((ai.flat own).map dB)),(5,ag S.length),(8,ag (S.length+1)),(9,ag (S.length+2))]) ?_ ?_
 .refine cE (EV d.aj.length B λi hv=>[(12,af i),(11,hv),(0,ag w),(3,.sl b' ((ai.flat own).map dB)),(5,ag S.length),(8,ag (S.length+1)),(9,ag (S.length+2))]) d.aj.length _ ?_ ⟨0,_,F1,D1,sM,oM,(hB _ _ _ _ _).2 ⟨C2,iz,Gw.nil _ _ _ _ _ _,λl a b c hh=>V.noConfusion hh⟩,rfl⟩ ?_
  .repeat' first|exact ae.gZ _|refine ae.fp (by simp[g0,g3,g5,g8,g9]) ?_
  rintro j e U ⟨i,hv,F1,D1,rfl,hi,hI,rfl⟩;obtain⟨hC,hg,hh,FU⟩:=(hB _ _ _ _ _).1 hI;have hn:ab U (eD S.length 5) none=some (ah (d.aj.map Fo.v)):=by simp[ab,hC.b0]
  by_cases aB:i<d.aj.length
  .have iq:=ru aB false U;have kG:fits 1 [V.str d.aj[i].name]=true:=rfl;obtain⟨eV,U2,ha,yg,k2,s2,a5,a6⟩:=hh.xQ (fm aD fw) (bytes:=16) (b:=true) (y:=.str d.aj[i].name) hC.rk hC.st kG (by simp;omega);have C2:=hC.fq (gv:=hv) k2 s2 a5 λk ys wr cI=>hh.Ec cI oM
   have WT:=hg.other λl o ho a b c eV=>a5 l o ho λa' b' c' hh=>FU l a' b' c' hh a b c eV
   have hm:((d.aj.take (i+1)).map Fo.name).map V.str=((d.aj.take i).map Fo.name).map .str++[.str d.aj[i].name]:=by rw[map_take _ _ _ aB,cJ];rfl
   rw[<-hm]at yg;have V5:=hg.lt
   have df2:FA eV gv:=λl a b c hh a' b' c' hg=>by
    rcases a6 l a b c hh with h1|h1
    .exact FU l _ _ _ h1 _ _ _ hg
    .have:=V5 l _ _ _ hg;omega
   simp[hn,aB,iq,kG,ha,cG i];refine⟨_,?_,_,?_,i+1,eV,F1,D1,rfl,oM,(hB _ _ _ _ _).2 ⟨C2,WT,yg,df2⟩,rfl⟩
   .omega
   .exact ba
  .have:i=d.aj.length:=oM;subst this;simp[hn];refine⟨hv,F1,D1,hI,?_⟩;exact ba
 clear cZ g0 g2 g3 g5 g8 g9;rintro e U4 ⟨hv,F4,D4,hI,cZ⟩;obtain⟨C4,zo,hh4,_⟩:=(hB _ _ _ _ _).1 hI;rw[gu,<-Gj]at hh4;have g0:e.get 0=_:=cZ 0 _ rfl;have g3:e.get 3=_:=cZ 3 _ rfl;have g5:e.get 5=_:=cZ 5 _ rfl;have g8:e.get 8=_:=cZ 8 _ rfl;have g9:e.get 9=_:=cZ 9 _ rfl;have g11:e.get 11=_:=cZ 11 _ rfl;simp[g0,g3,g11];refine bE (Zw r bf bt w fv aD fw F4 D4 U4 C4.rk b' own names hv hh4.nr oM oM) ?_;rintro v U5 ⟨rfl,F2,D2,k5,s5⟩;have C5:=C4.call k5 s5;have zp:=zo.step s5;rw[<-Gj];obtain⟨inner,MH⟩:=eX (ar names aD.length::own);have iT:(aD++dk names).length=aD.length+(ar names aD.length).length:=by rw[dx,NT _ aD.length]
 have yE:vZ (aD++dk names) fw inner (Sm.bH d.body) (bk (d.body.map Pa.st)):=by
  rw[MH];exact vZ.enter (nb:=(ar names 0).length+Sm.bH d.body) ⟨ok.nd,MX,by rw[Gj];omega,oM⟩ names cz
 have hfi:=yE.fl;have L8:=yE.bo;rw[<-MH];have qf1:=qR (j:=5) (v:=sN) C5.b2 ⟨rfl,rfl,rfl⟩ sM sM;simp only[List.take,List.drop,dR,ig]at qf1;have C6:=C5.put (fm _ _) (mq d gv tj sN bv);have FZ:=zp.jp C5.b2 oM (.arr [mq d gv tj sN bv] 7 1);simp[g9,qf1];obtain⟨E,hE⟩:∃A:Nat->V->Np->Np->St->Prop,∀i xv F' D' U,A i xv F' D' U↔(Cx w 7 (Rk r bf bt w fv (aD++dk names) fw) F D S d.v Ib (mq d gv tj xv bv) F' D' U/\Gw 1 S.length w F' D' ((d.names.map (dX r own)).map .str) gv U/\Gw 4 S.length w F' D' (((d.aj.take i).map (Fo.rw r inner)).map Fo.v) xv U):=⟨_,λ_ _ _ _ _=>Iff.rfl⟩;refine eA (CE (E d.aj.length) λ_=>[(13,ah ((ai.flat inner).map dB)),(0,ag w),(5,ag S.length),(8,ag (S.length+1)),(9,ag (S.length+2))]) ?_ ?_
 .refine cE (EV d.aj.length E λi _=>[(14,af i),(13,ah ((ai.flat inner).map dB)),(0,ag w),(5,ag S.length),(8,ag (S.length+1)),(9,ag (S.length+2))]) d.aj.length _ ?_ ⟨0,_,F2,D2,sM,oM,(hE _ _ _ _ _).2 ⟨C6,FZ,Gw.nil _ _ _ _ _ _⟩,rfl⟩ ?_
  .repeat' first|exact ae.gZ _|refine ae.fp (by simp[g0,g3,g5,g8,g9]) ?_
  rintro j e U ⟨i,xv,F2,D2,rfl,hi,hI,rfl⟩;obtain⟨hC,hg,hx⟩:=(hE _ _ _ _ _).1 hI;have hn:ab U (eD S.length 5) none=some (ah (d.aj.map Fo.v)):=by simp[ab,hC.b0]
  by_cases aB:i<d.aj.length
  .have iq:=ru aB false U;obtain⟨f,hf⟩:=eX (d.aj[i]);rw[<-hf]at iq;obtain⟨f',hf'⟩:=eX (Fo.rw r inner f);have C7:=hC.push (fm _ _) [.arr [f.v] 4 1];have q:=SZ r bf bt w fv (aD++dk names) fw F2 D2 _ C7.rk false inner yE.nd oM f.name;have C8:=hC.push (fm _ _) [.arr [f'.v] 4 1];have I0:=hg.push [.arr [f'.v] 4 1];have Bc:=hx.push [.arr [f'.v] 4 1];have kG:fits 4 [f'.v]=true:=rfl;obtain⟨uj,U2,ha,kK,k2,s2,a5,a6⟩:=Bc.xQ (fm _ _) (bytes:=40) (b:=true) (y:=f'.v) C8.rk C8.st kG (by simp;omega);have C9:=C8.fq (gv:=xv) k2 s2 a5 λk ys wr cI=>Bc.Ec cI oM
   have qf2:=qR (j:=5) C9.b2 kK.wK sM sM;simp only[List.take,List.drop,dR,ig]at qf2;have C10:=C9.put (fm _ _) (mq d gv tj uj bv);have qgb:=kK.jp C9.b2 oM (.arr [mq d gv tj uj bv] 7 1);have MC:=I0.other λl o ho a b c eV=>a5 l o ho λa' b' c' hh=>(Gx.ne (.inr Bc) (.inr I0) oM) l a' b' c' a b c hh eV
   have qqO:=MC.jp C9.b2 oM (.arr [mq d gv tj uj bv] 7 1);have hm:((d.aj.take (i+1)).map (Fo.rw r inner)).map Fo.v=((d.aj.take i).map (Fo.rw r inner)).map Fo.v++[f'.v]:=by rw[map_take _ _ _ aB,cJ,hf',hf];rfl
   rw[<-hm]at qgb;have nY:ab (U++[.arr [f'.v] 4 1]) (eD (S.length+2) 5) none=some xv:=by simp[ab,C8.b2]
   have qg:ab (U++[.arr [f.v] 4 1]) (ag U.length) none=some (.str f.name):=by simp[ab]
   have qrM:aI (U++[.arr [f.v] 4 1]) (ag U.length) 1 (.str (dX r inner f.name))=some (U++[.arr [f'.v] 4 1]):=by
    simp[aI,qk5,aU,hf',Fo.rw,Fo.v]
   have qq0:ab (U++[.arr [f'.v] 4 1]) (ag U.length) (some 4)=some f'.v:=by simp[ab]
   have qrL:aI (U++[.arr [.agg [.str ⟨⟨[]⟩⟩,.bool false,z0,z0]] 4 1]) (ag U.length) 4 f.v=some (U++[.arr [f.v] 4 1]):=by
    simp[aI,aU]
   simp[hn,aB,iq,aL,bI,qrL,qg];refine aZ q ?_;simp[qrM,nY,qq0,kG,ha,qf2,cG i];refine⟨_,?_,_,?_,i+1,uj,F2,D2,rfl,oM,(hE _ _ _ _ _).2 ⟨C10,qqO,qgb⟩,rfl⟩
   .omega
   .exact ba
  .have:i=d.aj.length:=oM;subst this;simp[hn];refine⟨xv,F2,D2,hI,?_⟩;exact ba
 clear cZ g0 g3 g5 g8 g9 g11;rintro e U7 ⟨xv,F7,D7,hI,cZ⟩;obtain⟨C7,A0,xe⟩:=(hE _ _ _ _ _).1 hI;rw[gu]at xe;have g0:e.get 0=_:=cZ 0 _ rfl;have g5:e.get 5=_:=cZ 5 _ rfl;have g8:e.get 8=_:=cZ 8 _ rfl;have g9:e.get 9=_:=cZ 9 _ rfl;have g13:e.get 13=_:=cZ 13 _ rfl;have Dp:ab U7 (eD S.length 6) none=some (ah (d.body.map Sm.v)):=by simp[ab,C7.b0]
 have q:=qkA r bf bt w fv d.body H oM _ fw F7 D7 U7 false false inner C7.rk yE;simp[g0,g5,g13,Dp];refine bE q ?_;rintro v U8 ⟨rfl,F3,D3,k8,s8⟩;have C8:=C7.call k8 s8;have bg:=qR (j:=6) (v:=ah ((Sm.jR r inner (aD++dk names).length d.body).map Sm.v)) C8.b2 ⟨rfl,rfl,rfl⟩ sM sM;simp only[List.take,List.drop,dR,ig]at bg;have C9:=C8.put (fm _ _) (mq d gv tj xv (ah ((Sm.jR r inner (aD++dk names).length d.body).map Sm.v)));have MC:=(A0.step s8).jp C8.b2 oM (.arr [mq d gv tj xv (ah ((Sm.jR r inner (aD++dk names).length d.body).map Sm.v))] 7 1);have Xz:=(xe.step s8).jp C8.b2 oM (.arr [mq d gv tj xv (ah ((Sm.jR r inner (aD++dk names).length d.body).map Sm.v))] 7 1);subst QR;obtain⟨p1,U9,p2,p3⟩:=fin (d.names.map (dX r own)) (Ex.b9 r own d.aw) (d.aj.map (Fo.rw r inner)) _ gv xv C9 (.inr MC) (.inr Xz);rw[dY,iT]at p3;rw[iT]at bg p1 p2;simp[g8,g9,iT,bg,p1,p2]
 first|exact p3 _ g8|(rw[h4]at p3;exact p3 _ g8)
abbrev gA(s:Sm)(lv tx tg ex el dv bv:V):V:=.agg [lv,af s.kind,tx,tg,ex,el,dv,bv]
def Sm.Og(r:Rp)(sc:ai)(n:Nat)(s:Sm):s.rw r sc n=
  if s.kind=7 then .mk (s.labels.map (dX r sc)) s.kind s.text s.targets s.aw s.elems (De.b9 r (ar (cK s.decls s.body) n::sc) sc (n+(ar (cK s.decls s.body) n).length) s.decls) (Sm.b9 r (ar (cK s.decls s.body) n::sc) (n+(ar (cK s.decls s.body) n).length+De.aX s.decls) s.body)
  else if s.kind=8 then .mk (s.labels.map (dX r sc)) s.kind s.text s.targets s.aw s.elems s.decls (Sm.b9 r (ar (cr s.body) n::sc) (n+(ar (cr s.body) n).length) s.body)
  else .mk (s.labels.map (dX r sc)) s.kind (if s.kind=6 then qm r sc s.text else s.text) (Ex.b9 r sc s.targets) (Ex.b9 r sc s.aw) (s.elems.map (El.rw r sc)) s.decls (Sm.jR r sc n s.body):=by
 cases s;rw[Sm.rw];rfl
def Sm.Of(r:Rp)(sc:ai)(n:Nat)(st:cd)(s:Sm):s.rs r sc n st=
  if s.kind=7 then Sm.bC r (ar (cK s.decls s.body) n::sc) (n+(ar (cK s.decls s.body) n).length+De.aX s.decls) (De.bC r (ar (cK s.decls s.body) n::sc) sc (n+(ar (cK s.decls s.body) n).length) st s.decls) s.body
  else if s.kind=8 then Sm.bC r (ar (cr s.body) n::sc) (n+(ar (cr s.body) n).length) st s.body
  else Sm.mb r sc n (Ex.bC r sc (El.bC r sc (yO r sc (if s.kind=6 then oh r sc s.text st else st) s.targets) s.elems) s.aw) s.body:=by
 cases s;rw[Sm.rs];rfl
def Sm.UZ(s:Sm):s.bn=if s.kind=7 then dk (cK s.decls s.body)++De.dp s.decls++Sm.dp s.body else if s.kind=8 then dk (cr s.body)++Sm.dp s.body else Sm.jk s.body:=by
 cases s;rw[Sm.bn];rfl
def qtH(l:List De)(i:Nat)(h:i<l.length):De.aX (l.take (i+1))=De.aX (l.take i)+l[i].nb/\De.aX (l.take (i+1))<=De.aX l:=by
 have ht:l.take (i+1)=l.take i++[l[i]]:=by rw[dN,bX h];rfl
 refine⟨by rw[ht,De.yC];simp[De.aX],?_⟩;have:De.aX l=De.aX (l.take (i+1))+De.aX (l.drop (i+1)):=by rw[<-De.yC,qY]
 omega
def Jy:∀l:List De,(l.flatMap De.names).length<=bk (l.map Pa.de)
 |[]=>by simp
 |x::m=>by
  have ih:=Jy m;have:=De.tR x;simp only[nl,dx,cQ,iN]at ih |-;omega
def qtE(l:List De)(i:Nat)(h:i<l.length):(l.take (i+1)).flatMap De.names=(l.take i).flatMap De.names++l[i].names/\((l.take i).flatMap De.names).length+l[i].names.length<=bk (l.map Pa.de):=by
 have ht:l.take (i+1)=l.take i++[l[i]]:=by rw[dN,bX h];rfl
 refine⟨by rw[ht,KF];simp,?_⟩;have h1:=Jy (l.take i);have h2:=JR Pa.de l i h;have h3:=De.tR l[i];omega
def El.zT(r:Rp)(sc:ai)(l m:List El)(st:cd):El.bC r sc st (l++m)=El.bC r sc (El.bC r sc st l) m:=uz ..
def Zz(r:Rp)(ho:za r)(bf bt:Bool)(w:Nat)(fv:V):∀(m:Nat) (s:Sm),(Pa.st s).size<=m->m<=4000->Fa r bf bt w fv s
 |0,s,hx,_=>by have:=(Pa.st s).size_pos;omega
 |m+1,s,hx,hm=>by
  intro aD st F D S b sc hk ok;have Xc:=Sm.tR s
  have ET:∀y,y∈s.body→Fa r bf bt w fv y:=λy hy=>Zz r ho bf bt w fv m y (by
   obtain⟨i,hi⟩:=oY (pS (f:=Pa.st) hy);have:=nc hi;omega) oM
  have TY:∀d,d∈s.decls→∀y,y∈d.body→Fa r bf bt w fv y:=λd hd y hy=>Zz r ho bf bt w fv m y (by
   obtain⟨i,hi⟩:=oY (pS (f:=Pa.de) hd);have h1:=nc hi;have h2:=De.tR d;obtain⟨j,hj⟩:=oY (pS (f:=Pa.st) hy);have:=nc hj;omega) oM
  have iT:s.body.length<=4000:=by have:=oi (s.body.map Pa.st);rw[bQ]at this;omega
  have IW:s.decls.length<=4000:=by have:=oi (s.decls.map Pa.de);rw[bQ]at this;omega
  have qAi:s.elems.length<=4000:=by have:=oi (s.elems.map Pa.el);rw[bQ]at this;omega
  have my:=ok.bo;have jw:=ok.fr;have MX:=ok.fl;rw[Sm.NQ]at my;refine aA.ib qbn ?_;rw[Sm.Og,Sm.Of,Sm.UZ];have fm:=λbo s=>Rk.pZ r bf bt w fv bo s
  obtain⟨tg,DL⟩:=eX (V.sl false (s.targets.map Ex.v));obtain⟨ex,hex⟩:=eX (V.sl false (s.aw.map Ex.v));obtain⟨el,pz⟩:=eX (V.sl false (s.elems.map El.v));obtain⟨dv,WH⟩:=eX (V.sl false (s.decls.map De.v));obtain⟨bv,L9⟩:=eX (V.sl false (s.body.map Sm.v));obtain⟨S2,lD⟩:=eX (α:=St) (S++[.arr [s.v] 8 1,.arr [bL] 8 1,.arr [gA s sN (.str s.text) tg ex el dv bv] 8 1])
  have C0:Cx w 8 (Rk r bf bt w fv aD st) F D S s.v bL (gA s sN (.str s.text) tg ex el dv bv) F D S2:=by
   refine⟨by rw[lD];exact(fm _ _).push hk _,by rw[lD];exact(bJ.refl _ _ _ _).push _,?_,?_,?_,(fm _ _).out hk oM,(fm _ _).out hk oM,(fm _ _).out hk oM⟩
   all_goals rw[lD,cx oM];simp
  have fin:∀{bo s' F' D' U} (lb:List Bz) (tx:Bz) (tg ex:List Ex) (el:List El) (de:List De) (bd:List Sm) (lv Ih dv:V),Cx w 8 (Rk r bf bt w fv bo s') F D S s.v bL (gA s lv (.str tx) (ah (tg.map Ex.v)) (ah (ex.map Ex.v)) Ih dv (ah (bd.map Sm.v))) F' D' U->Gx 1 S.length w F' D' (lb.map .str) lv U->Gx 2 S.length w F' D' (el.map El.v) Ih U->Gx 7 S.length w F' D' (de.map De.v) dv U->
    ab U (ag (S.length+2)) (some 8)=some (gA s lv (.str tx) (ah (tg.map Ex.v)) (ah (ex.map Ex.v)) Ih dv (ah (bd.map Sm.v)))/\∃U',aI U (ag (S.length+1)) 8 (gA s lv (.str tx) (ah (tg.map Ex.v)) (ah (ex.map Ex.v)) Ih dv (ah (bd.map Sm.v)))=some U'/\
    ∀e:ae,e.get 6=some (ag (S.length+1))->eN [.cell 6 (some 8)] S.length (λv U=>nn w (Rk r bf bt w fv bo s') F D S (Sm.mk lb s.kind tx tg ex el de bd).v v U) .ret e U':=by
   intro bo s' F' D' U lb tx tg ex el de bd lv Ih dv hC h1 h2 h3;have f1:=h1.wK;have f2:=h2.wK;have f3:=h3.wK;refine⟨by simp[ab,hC.b2,dL],U.set (S.length+1) (.arr [gA s lv (.str tx) (ah (tg.map Ex.v)) (ah (ex.map Ex.v)) Ih dv (ah (bd.map Sm.v))] 8 1),by simp[aI,hC.b1,aU,f1.2.1,f2.2.1,f3.2.1],λe he=>?_⟩;exact qn4 (fm bo s') (bO (aR hC.b1)) he (h1.jp hC.b1 oM _) (h2.jp hC.b1 oM _) (h3.jp hC.b1 oM _) cz cz cz ((fm bo s').set hC.rk _ hC.o1) (hC.st.set _ oM)
  simp[qbn,aL,bI,aI,ab,vG,aU];rw[<-DL,<-hex,<-pz,<-WH,<-L9];rw[<-lD];obtain⟨A,hA⟩:∃A:Nat->V->Np->Np->St->Prop,∀i gv F' D' U,A i gv F' D' U↔(Cx w 8 (Rk r bf bt w fv aD st) F D S s.v bL (gA s gv (.str s.text) tg ex el dv bv) F' D' U/\Gw 1 S.length w F' D' (((s.labels.take i).map (dX r sc)).map .str) gv U):=⟨_,λ_ _ _ _ _=>Iff.rfl⟩;refine eA (CE (A s.labels.length) λ_=>[(0,ag w),(2,.sl b ((ai.flat sc).map dB)),(4,ag S.length),(6,ag (S.length+1)),(7,ag (S.length+2))]) ?_ ?_
  .refine cE (EV s.labels.length A λi _=>[(8,af i),(0,ag w),(2,.sl b ((ai.flat sc).map dB)),(4,ag S.length),(6,ag (S.length+1)),(7,ag (S.length+2))]) s.labels.length _ ?_ ⟨0,_,F,D,sM,oM,(hA _ _ _ _ _).2 ⟨C0,Gw.nil _ _ _ _ _ _⟩,rfl⟩ ?_
   .exact ba
   rintro j e U ⟨i,gv,F1,D1,rfl,hi,hI,rfl⟩;obtain⟨hC,hg⟩:=(hA _ _ _ _ _).1 hI;have hn:ab U (ag S.length) none=some (ah (s.labels.map .str)):=by simp[ab,hC.b0]
   by_cases aB:i<s.labels.length
   .have iq:=oR aB false U;have ME:ab U (ag (S.length+2)) none=some gv:=by simp[ab,hC.b2]
    have kG:fits 1 [V.str (dX r sc s.labels[i])]=true:=rfl;obtain⟨FO,U2,ha,iz,k2,s2,a5,a6⟩:=hg.xQ (fm aD st) (bytes:=16) (b:=true) (y:=.str (dX r sc s.labels[i])) hC.rk hC.st kG (by simp;omega);have C2:=hC.fq (gv:=gv) k2 s2 a5 λk ys wr cI=>hg.Ec cI oM
    have bg:=qR (j:=0) C2.b2 iz.wK sM sM;simp only[List.take,List.drop,dR,ig]at bg;have C3:=C2.put (fm aD st) (gA s FO (.str s.text) tg ex el dv bv);have gz:=iz.jp C2.b2 oM (.arr [gA s FO (.str s.text) tg ex el dv bv] 8 1);have hm:((s.labels.take (i+1)).map (dX r sc)).map V.str=((s.labels.take i).map (dX r sc)).map .str++[.str (dX r sc s.labels[i])]:=by rw[map_take _ _ _ aB,cJ];rfl
    rw[<-hm]at gz;simp[hn,aB,ME,iq,dK];refine nG (SZ r bf bt w fv aD st F1 D1 U hC.rk b sc ok.nd oM s.labels[i]) ?_;simp[kG,ha,bg];simp[dP,eF,eZ,ME];simp[cG i];refine⟨_,?_,_,?_,i+1,FO,F1,D1,rfl,oM,(hA _ _ _ _ _).2 ⟨C3,gz⟩,rfl⟩
    .omega
    .exact ba
   .have:i=s.labels.length:=oM;subst this;simp[hn];refine⟨gv,F1,D1,hI,?_⟩;exact ba
  rintro e U ⟨gv,F0,D0,hI,cZ⟩;obtain⟨hC,hg⟩:=(hA _ _ _ _ _).1 hI;rw[gu]at hg;show WP prog (.seq _ _) _ e U;rw[HT];obtain⟨M,hM⟩:∃A:V->Np->Np->St->Prop,∀lv F1 D1 U,A lv F1 D1 U↔(s.kind≠7/\s.kind≠8/\Cx w 8 (Rk r bf bt w fv aD (if s.kind=6 then oh r sc s.text st else st)) F D S s.v bL (gA s lv (.str (if s.kind=6 then qm r sc s.text else s.text)) tg ex el dv bv) F1 D1 U/\Gw 1 S.length w F1 D1 ((s.labels.map (dX r sc)).map .str) lv U):=⟨_,λ_ _ _ _=>Iff.rfl⟩;refine qcV (CE M λ_=>[(0,ag w),(2,.sl b ((ai.flat sc).map dB)),(4,ag S.length),(6,ag (S.length+1)),(7,ag (S.length+2))]) ?_ ?_
  .have g0:e.get 0=_:=cZ 0 _ rfl;have g2:e.get 2=_:=cZ 2 _ rfl;have g4:e.get 4=_:=cZ 4 _ rfl;have g6:e.get 6=_:=cZ 6 _ rfl;have g7:e.get 7=_:=cZ 7 _ rfl;have uW:ab U (eD S.length 1) none=some (af s.kind):=by simp[ab,hC.b0]
   have Rf:ab U (eD S.length 2) none=some (.str s.text):=by simp[ab,hC.b0]
   have Dp:∀{bo s' y F' D' U},Cx w 8 (Rk r bf bt w fv bo s') F D S s.v bL y F' D' U->ab U (eD S.length 7) none=some (ah (s.body.map Sm.v)):=λhC=>by simp[ab,hC.b0]
   have j7:∀{bo s' y F' D' U},Cx w 8 (Rk r bf bt w fv bo s') F D S s.v bL y F' D' U->ab U (eD S.length 6) none=some (ah (s.decls.map De.v)):=λhC=>by simp[ab,hC.b0]
   by_cases h7:s.kind=7
   .rw[ak h7,ak h7,ak h7];rw[ak h7]at my;simp[g4,uW,h7];obtain⟨B,hB⟩:∃A:Nat->V->Np->Np->St->Prop,∀i hv F' D' U,A i hv F' D' U↔(Cx w 8 (Rk r bf bt w fv aD st) F D S s.v bL (gA s gv (.str s.text) tg ex el dv bv) F' D' U/\Gw 1 S.length w F' D' ((s.labels.map (dX r sc)).map .str) gv U/\Gw 1 S.length w F' D' (((s.decls.take i).flatMap De.names).map .str) hv U/\FA hv gv):=⟨_,λ_ _ _ _ _=>Iff.rfl⟩;refine eA (CE (B s.decls.length) λhv=>[(9,hv),(0,ag w),(2,.sl b ((ai.flat sc).map dB)),(4,ag S.length),(6,ag (S.length+1)),(7,ag (S.length+2))]) ?_ ?_
    .refine cE (EV s.decls.length B λi hv=>[(10,af i),(9,hv),(0,ag w),(2,.sl b ((ai.flat sc).map dB)),(4,ag S.length),(6,ag (S.length+1)),(7,ag (S.length+2))]) s.decls.length _ ?_ ⟨0,_,F0,D0,sM,oM,(hB _ _ _ _ _).2 ⟨hC,hg,Gw.nil _ _ _ _ _ _,λl a b c hh=>V.noConfusion hh⟩,rfl⟩ ?_
     .repeat' first|exact ae.gZ _|refine ae.fp (by simp[g0,g2,g4,g6,g7]) ?_
     rintro j e U ⟨i,hv,F0,D0,rfl,hi,hI,rfl⟩;obtain⟨hC,hg,hh,FU⟩:=(hB _ _ _ _ _).1 hI;have hn:=j7 hC;by_cases aB:i<s.decls.length
     .have iq:=Gt aB false U;obtain⟨t1,t2⟩:=qtE s.decls i aB;obtain⟨eV,U2,ha,yg,k2,s2,a5,a6⟩:=hh.K1 (fm aD st) (bytes:=16) (x:=ah (s.decls[i].names.map .str)) hC.rk hC.st (rW _ _ _) (xU _) (by rw[bQ,bQ];omega);have C2:=hC.fq (gv:=hv) k2 s2 a5 λk ys wr cI=>hh.Ec cI oM
      have WT:=hg.other λl o ho a b c eV=>a5 l o ho λa' b' c' hh=>FU l a' b' c' hh a b c eV
      rw[<-cJ,<-t1]at yg;have V5:=hg.lt
      have df2:FA eV gv:=λl a b c hh a' b' c' hg=>by
       rcases a6 l a b c hh with h1|h1
       .exact FU l _ _ _ h1 _ _ _ hg
       .have:=V5 l _ _ _ hg;omega
      simp[hn,aB,iq,ha,cG i];refine⟨_,?_,_,?_,i+1,eV,F0,D0,rfl,oM,(hB _ _ _ _ _).2 ⟨C2,WT,yg,df2⟩,rfl⟩
      .omega
      .exact ba
     .have:i=s.decls.length:=oM;subst this;simp[hn];refine⟨hv,F0,D0,hI,?_⟩;exact ba
    clear cZ g0 g2 g4 g6 g7 uW Rf;rintro e U1 ⟨hv,F1,D1,hI,cZ⟩;obtain⟨C1,wS,hh1,FU⟩:=(hB _ _ _ _ _).1 hI;rw[gu]at hh1;have g0:e.get 0=_:=cZ 0 _ rfl;have g2:e.get 2=_:=cZ 2 _ rfl;have g4:e.get 4=_:=cZ 4 _ rfl;have g6:e.get 6=_:=cZ 6 _ rfl;have g7:e.get 7=_:=cZ 7 _ rfl;have g9:e.get 9=_:=cZ 9 _ rfl;simp[g0,g2,g4,g9,Dp C1];refine bE (qkp s.body oM false w _ (fm aD st) F1 D1 U1 C1.rk) ?_;rintro v U2 ⟨rfl,F2,D2,k2,s2⟩;have C2:=C1.call k2 s2;have iz:=wS.step s2;have yg:=hh1.step s2;have ym:=Jy s.decls;have qI:=X9 s.body;obtain⟨eV,U3,ha,MF,k3,s3,a5,a6⟩:=yg.K1 (fm aD st) (bytes:=16) (x:=ah ((cr s.body).map .str)) C2.rk C2.st (rW _ _ _) (xU _) (by rw[bQ,bQ];omega);have C3:=C2.fq (gv:=hv) k3 s3 a5 λk ys wr cI=>yg.Ec cI oM
    have gz:=iz.other λl o ho a b c eV=>a5 l o ho λa' b' c' hh=>FU l a' b' c' hh a b c eV
    rw[<-cJ]at MF;obtain⟨names,Gj⟩:=eX (cK s.decls s.body);have oN:s.decls.flatMap De.names++cr s.body=names:=by rw[Gj];rfl
    rw[oN]at MF;rw[<-Gj]at my |-;have qAs:names.length<=8000:=by rw[<-oN,dx];omega
    simp[ha];refine bE (Zw r bf bt w fv aD st F2 D2 U3 C3.rk b sc names eV MF.nr oM oM) ?_;rintro v U4 ⟨rfl,F4,D4,k4,s4⟩;have C4:=C3.call k4 s4;have zo:=gz.step s4;obtain⟨inner,MH⟩:=eX (ar names aD.length::sc);have qff:(aD++dk names).length=aD.length+(ar names aD.length).length:=by rw[dx,NT _ aD.length]
    have yE:vZ (aD++dk names) st inner (De.aX s.decls+Sm.aX s.body) (bk (s.decls.map Pa.de)+bk (s.body.map Pa.st)):=by
     rw[MH];exact vZ.enter (nb:=(ar names 0).length+(De.aX s.decls+Sm.aX s.body)) ⟨ok.nd,MX,oM,oM⟩ names cz
    rw[<-MH];have hfi:=yE.fl;have L8:=yE.bo;have qf0:=qR (j:=6) (v:=sN) C4.b2 ⟨rfl,rfl,rfl⟩ sM sM;simp only[List.take,List.drop,dR,ig]at qf0;have C5:=C4.put (fm _ _) (gA s gv (.str s.text) tg ex el sN bv);have zp:=zo.jp C4.b2 oM (.arr [gA s gv (.str s.text) tg ex el sN bv] 8 1);simp[g7,qf0];obtain⟨E,hE⟩:∃A:Nat->V->Np->Np->St->Prop,∀i xv F5 D5 U,A i xv F5 D5 U↔(Cx w 8 (Rk r bf bt w fv (aD++dk names++De.dp (s.decls.take i)) (De.bC r inner sc (aD++dk names).length st (s.decls.take i))) F D S s.v bL (gA s gv (.str s.text) tg ex el xv bv) F5 D5 U/\Gw 1 S.length w F5 D5 ((s.labels.map (dX r sc)).map .str) gv U/\Gw 7 S.length w F5 D5 ((De.b9 r inner sc (aD++dk names).length (s.decls.take i)).map De.v) xv U):=⟨_,λ_ _ _ _ _=>Iff.rfl⟩;refine eA (CE (E s.decls.length) λ_=>[(11,ah ((ai.flat inner).map dB)),(0,ag w),(4,ag S.length),(6,ag (S.length+1)),(7,ag (S.length+2))]) ?_ ?_
    .refine cE (EV s.decls.length E λi _=>[(12,af i),(11,ah ((ai.flat inner).map dB)),(0,ag w),(2,.sl b ((ai.flat sc).map dB)),(4,ag S.length),(6,ag (S.length+1)),(7,ag (S.length+2))]) s.decls.length _ ?_ ⟨0,_,F4,D4,sM,oM,(hE _ _ _ _ _).2 ⟨by simpa[De.dp,De.bC]using C5,zp,Gw.nil _ _ _ _ _ _⟩,rfl⟩ ?_
     .repeat' first|exact ae.gZ _|refine ae.fp (by simp[g0,g2,g4,g6,g7]) ?_
     rintro j e U ⟨i,xv,F5,D5,rfl,hi,hI,rfl⟩;obtain⟨hC,hg,hx⟩:=(hE _ _ _ _ _).1 hI;have hn:=j7 hC;by_cases aB:i<s.decls.length
     .have iq:=Gt aB false U;obtain⟨n1,n2⟩:=qtH s.decls i aB;have bg:=JR Pa.de s.decls i aB;have Gl:=De.mc r (s.decls.take i) inner sc (aD++dk names).length st;have qqi:(aD++dk names++De.dp (s.decls.take i)).length=(aD++dk names).length+De.aX (s.decls.take i):=by rw[dx,De.uK]
      have ht:s.decls.take (i+1)=s.decls.take i++[s.decls[i]]:=by rw[dN,bX aB];rfl
      have q:=qxL r ho bf bt w fv s.decls[i] (TY _ (dz aB)) oM _ _ F5 D5 U b false sc inner hC.rk ⟨yE.nd,oM,oM,by have:=yE.fr;omega⟩ ok.nd oM;rw[qqi]at q;obtain⟨d',eH⟩:=eX (De.rw r inner sc ((aD++dk names).length+De.aX (s.decls.take i)) s.decls[i]);rw[<-eH]at q;have nY:ab U (eD (S.length+2) 6) none=some xv:=by simp[ab,hC.b2]
      simp[hn,aB,iq,nY];obtain⟨F',D',U',r1,r2⟩:=hC.rk.real (aD++dk names++De.dp (s.decls.take i)++s.decls[i].bn) (De.rs r inner sc ((aD++dk names).length+De.aX (s.decls.take i)) (De.bC r inner sc (aD++dk names).length st (s.decls.take i)) s.decls[i]);refine uc q ⟨_,U',rfl,F',D',r1,r2⟩ ?_;rintro v U2 ⟨rfl,F6,D6,k6,s6⟩;have C6:=hC.call k6 s6;have FZ:=hg.step s6;have Gp:=hx.step s6;obtain⟨uj,U3,ha,xe,k7,s7,a5,a6⟩:=Gp.xQ (fm _ _) (bytes:=120) (b:=true) C6.rk C6.st (De.kj d') (by rw[bQ,qjV,qz];omega);have C7:=C6.fq (gv:=xv) k7 s7 a5 λk ys wr cI=>Gp.Ec cI oM
      have A0:=FZ.other λl o ho a b c eV=>a5 l o ho λa' b' c' hh=>(Gx.ne (.inr Gp) (.inr FZ) oM) l a' b' c' a b c hh eV
      have DI:=qR (j:=6) C7.b2 xe.wK sM sM;simp only[List.take,List.drop,dR,ig]at DI;have C8:=C7.put (fm _ _) (gA s gv (.str s.text) tg ex el uj bv);have I0:=A0.jp C7.b2 oM (.arr [gA s gv (.str s.text) tg ex el uj bv] 8 1);have Bc:=xe.jp C7.b2 oM (.arr [gA s gv (.str s.text) tg ex el uj bv] 8 1)
      have qf:(De.b9 r inner sc (aD++dk names).length (s.decls.take i)).map De.v++[d'.v]=(De.b9 r inner sc (aD++dk names).length (s.decls.take (i+1))).map De.v:=by
       rw[ht,De.Oh,cJ,eH];rfl
      have nw:De.rs r inner sc ((aD++dk names).length+De.aX (s.decls.take i)) (De.bC r inner sc (aD++dk names).length st (s.decls.take i)) s.decls[i]=De.bC r inner sc (aD++dk names).length st (s.decls.take (i+1)):=by
       rw[ht,De.zT];rfl
      have Dz:aD++dk names++De.dp (s.decls.take i)++s.decls[i].bn=aD++dk names++De.dp (s.decls.take (i+1)):=by
       rw[ht,De.K9,dY (aD++dk names)];simp[De.dp]
      rw[qf]at Bc;rw[nw,Dz]at C8;have XC:ab U2 (eD (S.length+2) 6) none=some xv:=by simp[ab,C6.b2]
      simp[De.kj,ha,DI];simp[dP,eF,eZ,nY,XC];simp[cG i];refine⟨_,?_,_,?_,i+1,uj,F6,D6,rfl,oM,(hE _ _ _ _ _).2 ⟨C8,I0,Bc⟩,rfl⟩
      .omega
      .exact ba
     .have:i=s.decls.length:=oM;subst this;simp[hn];refine⟨xv,F5,D5,hI,?_⟩;exact ba
    clear cZ g0 g2 g4 g6 g7 g9;rintro e U5 ⟨xv,F5,D5,hI,cZ⟩;obtain⟨C5,zp,Nk⟩:=(hE _ _ _ _ _).1 hI;rw[gu]at C5 Nk;have g0:e.get 0=_:=cZ 0 _ rfl;have g4:e.get 4=_:=cZ 4 _ rfl;have g6:e.get 6=_:=cZ 6 _ rfl;have g7:e.get 7=_:=cZ 7 _ rfl;have g11:e.get 11=_:=cZ 11 _ rfl;have Gl:=De.mc r s.decls inner sc (aD++dk names).length st;have qqh:(aD++dk names++De.dp s.decls).length=(aD++dk names).length+De.aX s.decls:=by rw[dx,De.uK]
    have q:=qko r bf bt w fv s.body ET iT _ _ F5 D5 U5 false false inner C5.rk ⟨yE.nd,oM,oM,by have:=yE.fr;omega⟩;rw[qqh,qff]at q;simp[g0,g4,g11,Dp C5];refine bE q ?_;rintro v U6 ⟨rfl,F6,D6,k6,s6⟩;have C6:=C5.call k6 s6;have bg:=qR (j:=7) (v:=ah ((Sm.b9 r inner (aD.length+(ar names aD.length).length+De.aX s.decls) s.body).map Sm.v)) C6.b2 ⟨rfl,rfl,rfl⟩ sM sM;simp only[List.take,List.drop,dR,ig]at bg;have C7:=C6.put (fm _ _) (gA s gv (.str s.text) tg ex el xv (ah ((Sm.b9 r inner (aD.length+(ar names aD.length).length+De.aX s.decls) s.body).map Sm.v)));have A0:=(zp.step s6).jp C6.b2 oM (.arr [gA s gv (.str s.text) tg ex el xv (ah ((Sm.b9 r inner (aD.length+(ar names aD.length).length+De.aX s.decls) s.body).map Sm.v))] 8 1);have xe:=(Nk.step s6).jp C6.b2 oM (.arr [gA s gv (.str s.text) tg ex el xv (ah ((Sm.b9 r inner (aD.length+(ar names aD.length).length+De.aX s.decls) s.body).map Sm.v))] 8 1);subst DL hex pz;obtain⟨p1,U9,p2,p3⟩:=fin (s.labels.map (dX r sc)) s.text s.targets s.aw s.elems _ _ gv _ xv C7 (.inr A0) (.inl ⟨false,rfl⟩) (.inr xe);have e1:aD++dk names++De.dp s.decls++Sm.dp s.body=aD++(dk names++De.dp s.decls++Sm.dp s.body):=by simp only[dY]
    rw[e1]at p3;simp[g6,g7,bg,p1,p2];rw[h7,qff]at p3;simp only[dY]at p3 |-;exact p3 _ g6
   rw[au h7,au h7,au h7];rw[au h7]at my;by_cases h8:s.kind=8
   .rw[ak h8,ak h8,ak h8];rw[ak h8]at my;simp[g0,g2,g4,uW,h8,Dp hC];refine bE (Zq r bf bt w fv s.body ET oM aD st F0 D0 U false b sc hC.rk ⟨ok.nd,MX,my,oM⟩) ?_;rintro v U1 ⟨rfl,F1,D1,k1,s1⟩;have C1:=hC.call k1 s1;obtain⟨bd,qqf⟩:=eX (Sm.b9 r (ar (cr s.body) aD.length::sc) (aD.length+(ar (cr s.body) aD.length).length) s.body);rw[<-qqf];have bg:=qR (j:=7) (v:=ah (bd.map Sm.v)) C1.b2 ⟨rfl,rfl,rfl⟩ sM sM;simp only[List.take,List.drop,dR,ig]at bg;have C2:=C1.put (fm _ _) (gA s gv (.str s.text) tg ex el dv (ah (bd.map Sm.v)));have iz:=(hg.step s1).jp C1.b2 oM (.arr [gA s gv (.str s.text) tg ex el dv (ah (bd.map Sm.v))] 8 1);subst DL hex pz WH;obtain⟨p1,U9,p2,p3⟩:=fin (s.labels.map (dX r sc)) s.text s.targets s.aw s.elems s.decls bd gv _ _ C2 (.inr iz) (.inl ⟨false,rfl⟩) (.inl ⟨false,rfl⟩);simp[g6,g7,bg,p1,p2]
    first|exact p3 _ g6|(rw[h8]at p3;exact p3 _ g6)
   by_cases h6:s.kind=6
   .simp[g0,g2,g4,uW,h6,Rf];refine bE (qkl r ho bf bt w fv aD st F0 D0 U hC.rk b sc ok.nd oM s.text oM) ?_;rintro v U1 ⟨rfl,F1,D1,k1,s1⟩;have C1:=hC.call k1 s1;have bg:=qR (j:=2) (v:=.str (qm r sc s.text)) C1.b2 ⟨rfl,rfl,rfl⟩ sM sM;simp only[List.take,List.drop,dR,ig]at bg;have C2:=C1.put (fm _ _) (gA s gv (.str (qm r sc s.text)) tg ex el dv bv);have iz:=(hg.step s1).jp C1.b2 oM (.arr [gA s gv (.str (qm r sc s.text)) tg ex el dv bv] 8 1);simp[g7,bg];refine⟨gv,F1,D1,(hM _ _ _ _).2 ⟨h7,h8,by rw[ak h6,ak h6];exact C2,iz⟩,?_⟩
    repeat' first|exact ae.gZ _|refine ae.fp (by simp[g0,g2,g4,g6,g7]) ?_
   .simp[g4,uW,h7,h8,h6];refine⟨gv,F0,D0,(hM _ _ _ _).2 ⟨h7,h8,by rw[au h6,au h6];exact hC,hg⟩,?_⟩
    repeat' first|exact ae.gZ _|refine ae.fp (by simp[g0,g2,g4,g6,g7]) ?_
  clear cZ hC hg hI;rintro e U ⟨gv,F1,D1,hI,cZ⟩;obtain⟨h7,h8,C1,wS⟩:=(hM _ _ _ _).1 hI;rw[au h7,au h8]at my;rw[au h7,au h7,au h7,au h8,au h8,au h8];obtain⟨fw,wZ⟩:=eX (if s.kind=6 then oh r sc s.text st else st)
  have qfZ:fw.free.length<=st.free.length+1:=by
   rw[wZ];split
   .exact SH r sc s.text st
   .omega
  obtain⟨tx,Rf⟩:=eX (if s.kind=6 then qm r sc s.text else s.text);rw[<-wZ]at C1 |-;rw[<-Rf]at C1 |-;have g0:e.get 0=_:=cZ 0 _ rfl;have g2:e.get 2=_:=cZ 2 _ rfl;have g4:e.get 4=_:=cZ 4 _ rfl;have g6:e.get 6=_:=cZ 6 _ rfl;have g7:e.get 7=_:=cZ 7 _ rfl;have ldt:ab U (eD S.length 3) none=some (ah (s.targets.map Ex.v)):=by simp[ab,C1.b0]
  simp[g0,g2,g4,ldt];refine bE (qxM r ho bf bt w fv s.targets oM aD fw F1 D1 U false b sc C1.rk ok.nd oM oM) ?_;rintro v U2 ⟨rfl,F2,D2,k2,s2⟩;have C2:=C1.call k2 s2;obtain⟨qT,Xt⟩:=eX (ah ((Ex.b9 r sc s.targets).map Ex.v));obtain⟨lG,vi⟩:=eX (yO r sc fw s.targets);have qrK:=qkZ r sc fw s.targets;rw[<-vi]at C2 qrK |-;rw[<-Xt];have Xq:=qR (j:=3) (v:=qT) C2.b2 (by rw[Xt];exact⟨rfl,rfl,rfl⟩) sM sM;simp only[List.take,List.drop,dR,ig]at Xq;have C3:=C2.put (fm _ _) (gA s gv (.str tx) qT ex el dv bv);have gz:=(wS.step s2).jp C2.b2 oM (.arr [gA s gv (.str tx) qT ex el dv bv] 8 1);obtain⟨U3,tn⟩:=eX (U2.set (S.length+2) (.arr [gA s gv (.str tx) qT ex el dv bv] 8 1));rw[<-tn]at Xq C3 gz;have qf3:=qR (j:=5) (v:=sN) C3.b2 ⟨rfl,rfl,rfl⟩ sM sM;simp only[List.take,List.drop,dR,ig]at qf3;have C4:=C3.put (fm _ _) (gA s gv (.str tx) qT ex sN dv bv);have zo:=gz.jp C3.b2 oM (.arr [gA s gv (.str tx) qT ex sN dv bv] 8 1);simp[g7,Xq,qf3];obtain⟨E,hE⟩:∃A:Nat->V->Np->Np->St->Prop,∀i xv F5 D5 U,A i xv F5 D5 U↔(Cx w 8 (Rk r bf bt w fv aD (El.bC r sc lG (s.elems.take i))) F D S s.v bL (gA s gv (.str tx) qT ex xv dv bv) F5 D5 U/\Gw 1 S.length w F5 D5 ((s.labels.map (dX r sc)).map .str) gv U/\Gw 2 S.length w F5 D5 (((s.elems.take i).map (El.rw r sc)).map El.v) xv U):=⟨_,λ_ _ _ _ _=>Iff.rfl⟩;refine eA (CE (E s.elems.length) λ_=>[(0,ag w),(2,.sl b ((ai.flat sc).map dB)),(4,ag S.length),(6,ag (S.length+1)),(7,ag (S.length+2))]) ?_ ?_
  .refine cE (EV s.elems.length E λi _=>[(13,af i),(0,ag w),(2,.sl b ((ai.flat sc).map dB)),(4,ag S.length),(6,ag (S.length+1)),(7,ag (S.length+2))]) s.elems.length _ ?_ ⟨0,_,F2,D2,sM,oM,(hE _ _ _ _ _).2 ⟨C4,zo,Gw.nil _ _ _ _ _ _⟩,rfl⟩ ?_
   .repeat' first|exact ae.gZ _|refine ae.fp (by simp[g0,g2,g4,g6,g7]) ?_
   rintro j e U ⟨i,xv,F5,D5,rfl,hi,hI,rfl⟩;obtain⟨hC,hg,hx⟩:=(hE _ _ _ _ _).1 hI;have hn:ab U (eD S.length 5) none=some (ah (s.elems.map El.v)):=by simp[ab,hC.b0]
   by_cases aB:i<s.elems.length
   .have iq:=λU=>Nu aB false U
    obtain⟨y,hy⟩:=eX (s.elems[i]);rw[<-hy]at iq;have bg:=JR Pa.el s.elems i aB;rw[<-hy]at bg;have Gl:=El.mc r sc (s.elems.take i) lG;have tI:(Pa.el y).size=1+bk (y.aw.map Pa.ex):=by rw[Pa.size_eq];rfl
    have ht:s.elems.take (i+1)=s.elems.take i++[y]:=by rw[dN,bX aB,hy];rfl
    have q:=Ov r ho bf bt w fv y.aw oM aD _ F5 D5 U false b sc hC.rk ok.nd oM oM;have nY:ab U (eD (S.length+2) 5) none=some xv:=by simp[ab,hC.b2]
    simp[hn,aB,iq,nY];obtain⟨F',D',U',r1,r2⟩:=hC.rk.real aD (Ex.bC r sc (El.bC r sc lG (s.elems.take i)) y.aw);refine uc q ⟨_,U',rfl,F',D',r1,r2⟩ ?_;rintro v U2 ⟨rfl,F6,D6,k6,s6⟩;have C6:=hC.call k6 s6;have FZ:=hg.step s6;have Gp:=hx.step s6;obtain⟨y',zy⟩:=eX (El.rw r sc y);obtain⟨uj,U3,ha,xe,k7,s7,a5,a6⟩:=Gp.xQ (fm _ _) (bytes:=32) (b:=true) C6.rk C6.st (El.kj y') (by simp;omega);have C7:=C6.fq (gv:=xv) k7 s7 a5 λk ys wr cI=>Gp.Ec cI oM
    have A0:=FZ.other λl o ho a b c eV=>a5 l o ho λa' b' c' hh=>(Gx.ne (.inr Gp) (.inr FZ) oM) l a' b' c' a b c hh eV
    have DI:=qR (j:=5) C7.b2 xe.wK sM sM;simp only[List.take,List.drop,dR,ig]at DI;have C8:=C7.put (fm _ _) (gA s gv (.str tx) qT ex uj dv bv);have I0:=A0.jp C7.b2 oM (.arr [gA s gv (.str tx) qT ex uj dv bv] 8 1);have Bc:=xe.jp C7.b2 oM (.arr [gA s gv (.str tx) qT ex uj dv bv] 8 1)
    have qf:((s.elems.take i).map (El.rw r sc)).map El.v++[y'.v]=((s.elems.take (i+1)).map (El.rw r sc)).map El.v:=by
     rw[ht,cJ,cJ,zy];rfl
    have nw:Ex.bC r sc (El.bC r sc lG (s.elems.take i)) y.aw=El.bC r sc lG (s.elems.take (i+1)):=by
     rw[ht,El.zT];rfl
    rw[qf]at Bc;rw[nw]at C8
    have wN:bP (.agg [z0,sN]) [(0,1,af y.kind),(1,1,ah ((Ex.b9 r sc y.aw).map Ex.v))]=some y'.v:=by
     rw[zy];simp[bP,aU,El.v,El.rw]
    have XC:ab U2 (eD (S.length+2) 5) none=some xv:=by simp[ab,C6.b2]
    have qrb:ab U2 (eD S.length 5) none=some (ah (s.elems.map El.v)):=by simp[ab,C6.b0]
    simp[bR,wN,El.kj,ha,DI];simp[dP,eF,eZ,nY,XC,hn,qrb,iq];simp[cG i];refine⟨_,?_,_,?_,i+1,uj,F6,D6,rfl,oM,(hE _ _ _ _ _).2 ⟨C8,I0,Bc⟩,rfl⟩
    .omega
    .exact ba
   .have:i=s.elems.length:=oM;subst this;simp[hn];refine⟨xv,F5,D5,hI,?_⟩;exact ba
  clear cZ g0 g2 g4 g6 g7;rintro e U5 ⟨xv,F5,D5,hI,cZ⟩;obtain⟨C5,zp,Nk⟩:=(hE _ _ _ _ _).1 hI;rw[gu]at C5 Nk;have g0:e.get 0=_:=cZ 0 _ rfl;have g2:e.get 2=_:=cZ 2 _ rfl;have g4:e.get 4=_:=cZ 4 _ rfl;have g6:e.get 6=_:=cZ 6 _ rfl;have g7:e.get 7=_:=cZ 7 _ rfl;have Gl:=El.mc r sc s.elems lG;have ldx:ab U5 (eD S.length 4) none=some (ah (s.aw.map Ex.v)):=by simp[ab,C5.b0]
  simp[g0,g2,g4,ldx];refine bE (Ov r ho bf bt w fv s.aw oM aD _ F5 D5 U5 false b sc C5.rk ok.nd oM oM) ?_;rintro v U6 ⟨rfl,F6,D6,k6,s6⟩;have C6:=C5.call k6 s6;have qAx:=Ex.mc r sc s.aw (El.bC r sc lG s.elems);obtain⟨CW,WL⟩:=eX (ah ((Ex.b9 r sc s.aw).map Ex.v));rw[<-WL];have DI:=qR (j:=4) (v:=CW) C6.b2 (by rw[WL];exact⟨rfl,rfl,rfl⟩) sM sM;simp only[List.take,List.drop,dR,ig]at DI;have C7:=C6.put (fm _ _) (gA s gv (.str tx) qT CW xv dv bv);have A0:=(zp.step s6).jp C6.b2 oM (.arr [gA s gv (.str tx) qT CW xv dv bv] 8 1);have xe:=(Nk.step s6).jp C6.b2 oM (.arr [gA s gv (.str tx) qT CW xv dv bv] 8 1);have Yd:ab (U6.set (S.length+2) (.arr [gA s gv (.str tx) qT CW xv dv bv] 8 1)) (eD S.length 7) none=some (ah (s.body.map Sm.v)):=by simp only[ab,C7.b0];simp
  simp[g0,g2,g4,g7,DI,Yd];refine bE (qkA r bf bt w fv s.body ET oM aD _ F6 D6 _ false b sc C7.rk ⟨ok.nd,MX,my,oM⟩) ?_;rintro v U8 ⟨rfl,F8,D8,k8,s8⟩;have C8:=C7.call k8 s8;have bg:=qR (j:=7) (v:=ah ((Sm.jR r sc aD.length s.body).map Sm.v)) C8.b2 ⟨rfl,rfl,rfl⟩ sM sM;simp only[List.take,List.drop,dR,ig]at bg;have C9:=C8.put (fm _ _) (gA s gv (.str tx) qT CW xv dv (ah ((Sm.jR r sc aD.length s.body).map Sm.v)));have MC:=(A0.step s8).jp C8.b2 oM (.arr [gA s gv (.str tx) qT CW xv dv (ah ((Sm.jR r sc aD.length s.body).map Sm.v))] 8 1);have Xz:=(xe.step s8).jp C8.b2 oM (.arr [gA s gv (.str tx) qT CW xv dv (ah ((Sm.jR r sc aD.length s.body).map Sm.v))] 8 1);subst Xt WL WH;obtain⟨p1,U9,p2,p3⟩:=fin (s.labels.map (dX r sc)) tx (Ex.b9 r sc s.targets) (Ex.b9 r sc s.aw) (s.elems.map (El.rw r sc)) s.decls _ gv xv _ C9 (.inr MC) (.inr Xz) (.inl ⟨false,rfl⟩);simp[g6,g7,bg,p1,p2];exact p3 _ g6
def OB(r:Rp)(ho:za r)(bf bt:Bool)(w:Nat)(fv:V)(s:Sm)(bF:(Pa.st s).size<=4000)(st:cd)(F D:Np)(S:St)(hk:Rk r bf bt w fv [] st F D S)(hn:Sm.bH [s]<=50000)(jw:st.free.length+(Pa.st s).size<=1000000):
  aA prog 67 [ag w,s.v] S (λv U=>nn w (Rk r bf bt w fv (dk s.labels++s.bn) (s.rs r [ar s.labels 0] (ar s.labels 0).length st)) F D S (s.BX r).v v U):=by
 refine aA.ib C67 ?_;obtain⟨S1,bB⟩:=eX (α:=St) (S++[.arr [s.v] 8 1,.arr [bL] 8 1]);have b0:S1[S.length]?=aJ [s.v] 8:=by rw[bB,cx oM];simp
 have b1:S1[S.length+1]?=aJ [bL] 8:=by rw[bB,cx oM];simp
 have fm:=λbo s=>Rk.pZ r bf bt w fv bo s
 have k1:Rk r bf bt w fv [] st F D S1:=by rw[bB];exact(fm _ _).push hk _
 have s1:bJ w F D S F D S1:=by rw[bB];exact(bJ.refl _ _ _ _).push _
 have o1:gy w F D (S.length+1):=(fm _ _).out hk oM;have nW:cr [s]=s.labels:=by simp[cr]
 have q:=Zq r bf bt w fv [s] (λy hy=>by simp at hy;subst hy;exact Zz r ho bf bt w fv 4000 y bF cz) (by simpa using bF) [] st F D S1 true true [] k1 ⟨λ_ h=>(by cases h),fS _,by rw[nW];simpa[Sm.bH,Sm.aX]using hn,by simpa using jw⟩;rw[nW]at q;simp only[cQ,nK,Sm.dp,Sm.bC,Sm.b9,pR,ig,qy,mg,ai.flat]at q;have Bi:ab S1 (ag S.length) (some 8)=some s.v:=by simp[ab,b0]
 simp[C67,aL];rw[<-bB];simp[Bi,Sm.kj];refine bE q ?_;rintro v U ⟨rfl,F1,D1,k2,s2⟩;have c1:=s2.at o1 b1;have p1:=o1.next (aR b1) s2;have iq:gP U 8 (ah [(s.rw r [ar s.labels 0] (ar s.labels 0).length).v]) 0=some (.cq (s.rw r [ar s.labels 0] (ar s.labels 0).length).v 0):=by simp[gP]
 obtain⟨y,hy⟩:=eX (s.rw r [ar s.labels 0] (ar s.labels 0).length);rw[<-hy]at iq |-;have bg:aI U (ag (S.length+1)) 8 y.v=some (U.set (S.length+1) (.arr [y.v] 8 1)):=by simp[aI,c1,aU]
 simp[iq,bg];have hz:(U.set (S.length+1) (.arr [y.v] 8 1))[S.length+1]?=aJ [y.v] 8:=bO (aR c1);exact bu (vs:=[y.v]) (by simp[eL,ab,hz]) ⟨by simp only[aY];rw[hy];rfl,F1,D1,(fm _ _).set k2 _ p1,(s1.trans s2).set _ oM⟩
def r0:Rp:=⟨[],[],[]⟩
def Sv:za r0:=⟨dl _,fS _⟩
def iY:cd:=⟨[],false,false⟩
abbrev vN(gv:V):Ob:=.arr [.agg [sN,sN,gv,sN,sN,.bool false,.bool false]] 7 1
def Rk.start{w:Nat}{S:St}{gv:V}{fresh:List Bz}{D:Np}(h:S[w]?=some (vN gv))(hg:Gs w D fresh gv S)(hD:∀l,D l->l<S.length)(hw:¬D w):Rk ⟨fresh,[],[]⟩ true true w gv [] iY (λ_=>False) D S:=by
 refine⟨⟨sN,sN,?_,.inl ⟨rfl,rfl⟩,.inl ⟨rfl,rfl⟩,λl a b c hh=>by cases hh⟩,?_,?_,id,hw,λl hl=>hl.elim,aR h⟩
 .unfold gn iY;unfold vN at h;exact h
 .rcases hg with ⟨h1,h2⟩|⟨l,wr,h1,h2,h3,h4,h5⟩
  .exact .inl ⟨true,by rw[h1,h2];rfl⟩
  .exact .inr ⟨l,wr,h1,h3,h4,h5⟩
 .rintro l (hl|hl)
  .exact hl.elim
  .exact hD l hl
section
variable {f:Nat->Bz} {nm:Bz->Bool} (hf:∀k,nm (f k)=false) (r:Rp) (z:Bz)
include hf
theorem YW(sc:ai)(t:Bz)(st:cd)(ht:nm t=true):z∈(oS r sc t st).free↔z∈st.free\/z∈[fQ f sc t].filter nm:=by
 unfold oS fQ
 cases sc.at t with
 |none=>simp[ht]
 |some k=>simp[hf]
omit hf in
theorem qhs{a b c:Prop}:(a\/b)\/c↔a\/c\/b:=⟨by rintro((h|h)|h)<;>simp[h],by rintro(h|h|h)<;>simp[h]⟩
mutual
theorem Ex.G5(sc:ai):∀(x:Ex) (st:cd),(Pa.ex x).valid nm=true->(z∈(Ex.rs r sc st x).free↔z∈st.free\/z∈(Ex.gm (x.w f sc)).filter nm)
 |.mk k o n m e t a,st,v=>by
  have va:=Ex.Hu v;simp only[Ex.args]at va;have h1:=(Pa.gU.1 v).1;rw[Ex.rs,Ex.w,Ex.gm,qu,cU];by_cases h6:k=6
  .subst h6;have hn:Ex.named 6=true:=rfl;simp[Pa.bp,Ex.bp]at h1;obtain⟨⟨⟨⟨_,rfl⟩,rfl⟩,rfl⟩,rfl,rfl⟩:=h1;rw[ak rfl,YW hf r z sc t st (Ex.EJ v hn),hn,ak rfl,ak rfl];simp[Ex.wl,Ex.cL]
  .rw[au h6,Ex.rE sc a _ va];by_cases kn:k=7\/k=8
   .have hn:Ex.named k=true:=by unfold Ex.named;rcases kn with rfl|rfl<;>rfl
    have h2:(oh r sc t st).free=(oS r sc t st).free:=rfl;rw[ak kn,hn,ak rfl,ak rfl,h2,YW hf r z sc t st (Ex.EJ v hn),qhs]
   .have hn:Ex.named k=false:=by unfold Ex.named;simp;omega
    rw[au kn,hn];simp
theorem Ex.rE(sc:ai):∀(l:List Ex) (st:cd),(∀x,x∈l->(Pa.ex x).valid nm=true)->(z∈(Ex.bC r sc st l).free↔z∈st.free\/z∈(Ex.cL (Ex.wl f sc l)).filter nm)
 |[],st,_=>by simp[Ex.bC,Ex.wl,Ex.cL]
 |x::l,st,v=>by
  rw[Ex.bC,Ex.wl,Ex.cL,Ex.rE sc l _ λy hy=>v y (by simp[hy]),Ex.G5 sc x st (v x sM),qu,cU,or_assoc]
end
theorem El.rE(sc:ai):∀(l:List El) (st:cd),(∀x,x∈l->(Pa.el x).valid nm=true)->(z∈(El.bC r sc st l).free↔z∈st.free\/z∈(El.cL (l.map (El.w f sc))).filter nm)
 |[],st,_=>by simp[El.bC,El.cL]
 |x::l,st,v=>by
  have h1:=Ex.rE hf r z sc x.aw st (λy hy=>(Pa.gU.1 (v x sM)).2 _ (by simp only[Pa.kids];exact pS hy));have h2:=El.rE sc l (Ex.bC r sc st x.aw) λy hy=>v y (by simp[hy])
  show z∈(El.bC r sc (Ex.bC r sc st x.aw) l).free↔_;rw[h2,h1,cQ,El.cL,qu,cU,or_assoc];unfold El.w;rw[<-Ex.pO]
mutual
theorem Sm.G5:∀(s:Sm) (sc:ai) (n:Nat) (st:cd),(Pa.st s).valid nm=true->(z∈(Sm.rs r sc n st s).free↔z∈st.free\/z∈(s.w f sc n).gm.filter nm)
 |.mk l k t g e el d b,sc,n,st,v=>by
  obtain⟨v7,v8,v9⟩:=Sm.EH v;have vd:=Sm.BQ v;have vb:=Sm.pN v;have vg:=Sm.JZ v;have ve:=Sm.qU v;have vl:=Sm.JY v;have vt:=Sm.EJ v;simp only[Sm.decls,Sm.body,Sm.targets,Sm.aw,Sm.elems,Sm.kind,Sm.text]at vd vb vg ve vl vt;rw[Sm.rs,Sm.w];by_cases h7:k=7
  .obtain⟨rfl,rfl,rfl⟩:=v7 h7;rw[ak h7,ak h7,Sm.gm,ak h7,qu,cU,Sm.rE b _ _ _ vb,De.rE d _ _ _ _ vd,or_assoc]
  .rw[au h7,au h7];by_cases h8:k=8
   .obtain⟨rfl,rfl,rfl,rfl⟩:=v8 h8;rw[ak h8,ak h8,Sm.gm,au h7,ak h8,Sm.rE b _ _ _ vb]
   .obtain rfl:=v9 h7 h8;rw[au h8,au h8,Sm.gm,au h7,au h8,Sm.YR b _ _ _ vb,Ex.rE hf r z sc e _ ve,El.rE hf r z sc el _ vl];have h2:∀bc,(yO r sc bc g).free=(Ex.bC r sc bc g).free:=λ_=>rfl
    rw[h2,Ex.rE hf r z sc g _ vg];simp only[qu,cU];by_cases h6:k=6
    .have h3:(oh r sc t st).free=(oS r sc t st).free:=rfl;rw[ak h6,ak h6,ak h6,h3,YW hf r z sc t st (vt h6)];constructor
     .rintro(((((h|h)|h)|h)|h)|h)<;>simp[h]
     .rintro(h|(((h|h)|h)|h)|h)<;>simp[h]
    .rw[au h6,au h6];constructor
     .rintro((((h|h)|h)|h)|h)<;>simp[h]
     .rintro(h|(((h|h)|h)|h)|h)
      .simp[h]
      .simp[h]
      .simp[h]
      .simp[h]
      .simp[h]
      .simp at h
theorem De.G5:∀(s:De) (own sc:ai) (n:Nat) (st:cd),(Pa.de s).valid nm=true->(z∈(De.rs r own sc n st s).free↔z∈st.free\/z∈(s.w f own sc n).gm.filter nm)
 |.mk k o t ns e fo b,own,sc,n,st,v=>by
  obtain⟨v4,v5⟩:=De.EI v;have vb:=De.pN v;have ve:=De.qU v;simp only[De.body,De.aw]at vb ve;rw[De.rs,De.w];by_cases h4:k=4
  .obtain rfl:=v4 h4;rw[ak h4,ak h4,De.gm,ak h4,Sm.YR b _ _ _ vb];rfl
  .obtain⟨rfl,rfl⟩:=v5 h4;rw[au h4,au h4,De.gm,au h4];exact Ex.rE hf r z _ e st ve
theorem De.rE:∀(l:List De) (own sc:ai) (n:Nat) (st:cd),(∀x,x∈l->(Pa.de x).valid nm=true)->(z∈(De.bC r own sc n st l).free↔z∈st.free\/z∈(De.cL (De.wl f own sc n l)).filter nm)
 |[],_,_,_,st,_=>by simp[De.bC,De.wl,De.cL]
 |x::l,own,sc,n,st,v=>by
  rw[De.bC,De.wl,De.cL,De.rE l own sc _ _ λy hy=>v y (by simp[hy]),De.G5 x own sc n st (v x sM),qu,cU,or_assoc]
theorem Sm.rE:∀(l:List Sm) (sc:ai) (n:Nat) (st:cd),(∀x,x∈l->(Pa.st x).valid nm=true)->(z∈(Sm.bC r sc n st l).free↔z∈st.free\/z∈(Sm.cL (Sm.wl f sc n l)).filter nm)
 |[],_,_,st,_=>by simp[Sm.bC,Sm.wl,Sm.cL]
 |x::l,sc,n,st,v=>by
  rw[Sm.bC,Sm.wl,Sm.cL,Sm.rE l sc _ _ λy hy=>v y (by simp[hy]),Sm.G5 x sc n st (v x sM),qu,cU,or_assoc]
theorem Sm.YR:∀(l:List Sm) (sc:ai) (n:Nat) (st:cd),(∀x,x∈l->(Pa.st x).valid nm=true)->(z∈(Sm.mb r sc n st l).free↔z∈st.free\/z∈(Sm.cL (Sm.w1 f sc n l)).filter nm)
 |[],_,_,st,_=>by simp[Sm.mb,Sm.w1,Sm.cL]
 |x::l,sc,n,st,v=>by
  rw[Sm.mb,Sm.w1,Sm.cL,Sm.YR l sc _ _ λy hy=>v y (by simp[hy]),Sm.G5 x _ _ st (v x sM),qu,cU,or_assoc]
end
end
def Sm.tP(s:Sm):List Bz:=(s.rs r0 [ar s.labels 0] (ar s.labels 0).length iY).free
def Sm.qjB(s:Sm)(v:(Pa.st s).valid aH=true):s.tP.foldl j8 []=s.fu:=by
 refine Zm (Bh uF) λz=>?_
 rw[qi,Sm.qpk (f:=Bo) Yw s v];refine(Sm.G5 Yw r0 z s [ar s.labels 0] (ar s.labels 0).length iY v).trans ?_;show z∈([]:List Bz)\/_↔_;rfl
def Sm.qvo(s:Sm):s.bounds.foldl j8 []=s.binds:=
 Zm (Bh uF) λz=>by rw[qi];simp
def Ab:Pw where
 H:=List Bz
 f _ x:=x
 nm:=some λx _ _=>x
 cl:=none
 nQ h _ _:=h
 xh h x _ _:=h++[x.text]
 qZ h _ _:=h
structure Us(m c:Nat)(h:List Bz)(F D:Np)(U:St):Prop where
 fc:U[c]?=aJ [.map m] 1
 fm:∃bs ck,(ii bs ck/\bs.length=(h.foldl eo []).length)/\U[m]?=some (.map ((h.foldl eo []).map kv) bs ck)
 hF:∀l,F l↔l=m
 hD:∀l,D l↔l=c
def Z0(m c:Nat):Cb where
 toPw:=Ab
 fe:=.bY
 fn:=.fn (.func 133) [] [ag c]
 fc:=.bY
 I h F D U:=Us m c h F D U
 cn _ _:=True
 lim:=100001
section
variable {m c:Nat} {h:List Bz} {F D:Np} {U:St}
theorem Us.fr{U':St}{M:Np}(k:Us m c h F D U)(hk:Kp M U U')(hM:∀l,M l->l<U.length->¬F l/\¬D l):Us m c h F D U':=by
 obtain⟨bs,ck,bg,hm⟩:=k.fm;exact⟨hk.at k.fc λhh=>(hM _ hh (aR k.fc)).2 ((k.hD _).2 rfl),⟨bs,ck,bg,hk.at hm λhh=>(hM _ hh (aR hm)).1 ((k.hF _).2 rfl)⟩,k.hF,k.hD⟩
theorem Us.use(k:Us m c h F D U)(h':List Bz){bs:List Nat}{ck:Nat}(bg:ii bs ck/\bs.length=(h'.foldl eo []).length):Us m c h' F D (U.set m (.map ((h'.foldl eo []).map kv) bs ck)):=by
 obtain⟨Ve,Vj,_,hm⟩:=k.fm;refine⟨?_,⟨bs,ck,bg,bO (aR hm)⟩,k.hF,k.hD⟩;rw[bG (zK hm k.fc sM)];exact k.fc
theorem qw2(k:Us m c h F D U)(x:Ex)(v:V)(tg:Bool):
  aA prog 133 [x.v,v,.bool tg,ag c] U (λr U'=>r=x.v/\Us m c (h++[x.text]) F D U'/\Kp F U U'):=by
 refine aA.ib qaK ?_;simp[qaK,aL];obtain⟨U1,eP⟩:=eX (α:=St) (U++[.arr [x.v] 7 1,.arr [zX] 7 1]);rw[<-eP];have l1:U1.length=U.length+2:=by rw[eP];simp
 have b0:U1[U.length]?=aJ [x.v] 7:=by rw[eP];simp
 have b1:U1[U.length+1]?=aJ [zX] 7:=by rw[eP,cx oM];simp
 have nZ:Kp F U U1:=by rw[eP];exact(Kp.refl _ _).push _
 have k1:Us m c h F D U1:=by rw[eP];exact k.fr (M:=λ_=>False) ((Kp.refl _ _).push _) λ_ h=>h.elim
 clear eP;have h6:=k1.fc;obtain⟨bs,ck,bg,hm⟩:=k1.fm;have lm:=aR k.fm.choose_spec.choose_spec.2;have lc:=aR k.fc;have mN:fits 1 [V.str x.text]=true:=rfl;simp[ab,h6,b0,mN];refine bE (qkL true [x.text] _ bs ck m U1 sM hm) ?_;rintro r U2 ⟨fA,iw,zu,W6,rfl⟩;have k2:=k1.use (h++[x.text]) (bs:=fA) (ck:=iw) ⟨zu bg.1,by rw[uz];exact W6 bg.2⟩;rw[uz]at k2
 have g:∀{l o},U1[l]?=some o->l≠m->(U1.set m (.map (([x.text].foldl eo (h.foldl eo [])).map kv) fA iw))[l]?=some o:=λ{l o} ho hl=>by
  rw[bG (Ne.symm hl)];exact ho
 have c0:=g b0 oM;have c1:=g b1 oM;have ry:Kp F U (U1.set m (.map (([x.text].foldl eo (h.foldl eo [])).map kv) fA iw)):=nZ.set _ (.inl ((k.hF m).2 rfl));obtain⟨U2,dG⟩:=eX (U1.set m (.map (([x.text].foldl eo (h.foldl eo [])).map kv) fA iw));rw[<-dG]at c0 c1 k2 ry |-;simp[ab,c0,aI,c1,aU];have hz:(U2.set (U.length+1) (.arr [x.v] 7 1))[U.length+1]?=aJ [x.v] 7:=bO (aR c1);refine bu (vs:=[x.v]) (by simp[eL,ab,hz]) ⟨rfl,k2.fr (M:=λl=>l=U.length+1) ((Kp.refl _ _).set _ (.inl rfl)) λl hl _=>⟨λhf=>?_,λhf=>?_⟩,ry.set _ (.inr oM)⟩
 .have:=(k.hF _).1 hf;omega
 .have:=(k.hD _).1 hf;omega
end
def qyu(n:Nat):ii (List.range n) n/\(List.range n).length=n:=⟨⟨λb hb=>E7.1 hb,List.nodup_range⟩,List.length_range⟩
theorem qyX(m c:Nat):(Z0 m c).Ok where
 lim:=dl _
 lt:=λ{h F D S} k l hl=>by
  have k:Us m c h F D S:=k;rcases hl with hl|hl
  .obtain⟨_,_,_,hm⟩:=k.fm;rw[(k.hF l).1 hl];exact aR hm
  .rw[(k.hD l).1 hl];exact aR k.fc
 fr:=λk hk hM=>Us.fr k hk hM
 lp:=λ{h F D S} k l o ho=>by
  have k:Us m c h F D S:=k;refine⟨λhf=>?_,λhf=>?_⟩
  .obtain⟨_,_,_,hm⟩:=k.fm;rw[(k.hF l).1 hf,hm]at ho;cases ho
  .rw[(k.hD l).1 hf,k.fc]at ho;cases ho
 ce _ _:=trivial
 cm _ _ _ _:=trivial
 cc _ _ _:=trivial
 real:=λ{h F D S} k h'=>⟨F,D,_,Us.use k h' (qyu _),(Kp.refl _ _).set _ (.inl ((k.hF m).2 rfl)),grow.refl _ _,grow.refl _ _⟩
 en:=.inl ⟨rfl,λ_ _=>rfl,λ_ _ _=>rfl⟩
 nm:=⟨133,[ag c],rfl,λU x w ts tg w' h F D eh k=>aA.mono (qw2 k x w tg) λr U' ⟨a,b,c⟩=>⟨a,F,D,b,c,grow.refl _ _,grow.refl _ _⟩⟩
 cl:=rfl
def Ac(h:Ab.H):List Bz:=h
def Z4:Ab.H:=([]:List Bz)
def qyY(sc:ai)(tg:Bool)(h:Ab.H)(k o n m e:Int)(t:Bz)(a:List Ex):Ac (Ab.sO sc tg h (.mk k o n m e t a))=if Ex.named k=true then Ac h++[t] else Ac h:=by
 show Ac (if Ex.named k=true then _ else _)=_;split<;>rfl
mutual
theorem Ex.qrC(sc:ai)(tg:Bool):∀(x:Ex) (h:Ab.H),Ac (Ex.hs Ab sc tg h x)=Ac h++Ex.gm x
 |.mk k o n m e t a,h=>by
  rw[Ex.hs,qyY,Ex.Xn sc false a h,Ex.gm];split<;>simp
theorem Ex.Xn(sc:ai)(tg:Bool):∀(l:List Ex) (h:Ab.H),Ac (Ex.aN Ab sc tg h l)=Ac h++Ex.cL l
 |[],h=>by simp[Ex.aN,Ex.cL]
 |x::l,h=>by rw[Ex.aN,Ex.Xn sc tg l,Ex.qrC sc tg x,Ex.cL,dY]
end
mutual
theorem Ex.R1:∀(x:Ex),(Ex.gm x).length<=(Pa.ex x).size
 |.mk k o n m e t a=>by
  have h1:=Ex.Yy a;have hz:=Pa.size_eq (.ex (.mk k o n m e t a));simp only[Pa.own,Pa.kids,Ex.args]at hz;rw[Ex.gm,dx];split
  .simp only[List.length_singleton];omega
  .simp only[qy];omega
theorem Ex.Yy:∀(l:List Ex),(Ex.cL l).length<=bk (l.map Pa.ex)
 |[]=>by simp[Ex.cL]
 |x::l=>by
  have h1:=Ex.R1 x;have h2:=Ex.Yy l;rw[Ex.cL,dx,cQ,iN];omega
end
def qkH(b:Bool)(l:List Ex)(hl:bk (l.map Pa.ex)<=4000)(S:St):
  aA prog 74 [.sl b (l.map Ex.v)] S (λr U=>∃m bs ck,r=.map m/\(ii bs ck/\bs.length=((Ex.cL l).foldl eo []).length)/\U[m]?=some (.map (((Ex.cL l).foldl eo []).map kv) bs ck)/\bz S U/\S.length<=m):=by
 refine aA.yR ?_;simp only[V.cR,V.weak,oq];refine aA.ib C74 ?_;simp[C74,aL,ab,aI,aU,bP,bR,bI,Tf,Td];obtain⟨B,hB⟩:=eX (S.length);obtain⟨S1,bB⟩:=eX (α:=St) (S++[.map [] [] 0,.arr [.map B] 1 1,.arr [.agg [z0,.bY,.fn (.func 133) [] [ag (B+1)],.bY]] 4 1]);rw[<-hB,<-bB];have l1:S1.length=B+3:=by rw[bB,hB];simp
 have b0:S1[B]?=some (.map [] [] 0):=by rw[bB,hB];simp
 have b1:S1[B+1]?=aJ [.map B] 1:=by rw[bB,hB,cx oM];simp
 have b2:S1[B+2]?=aJ [.agg [z0,.bY,.fn (.func 133) [] [ag (B+1)],.bY]] 4:=by rw[bB,hB,cx oM];simp
 have kS:bz S S1:=by rw[bB];exact(Kp.refl _ _).push _
 have k1:Us B (B+1) [] (λl=>l=B) (λl=>l=B+1) S1:=⟨b1,⟨[],0,⟨ii.nil,rfl⟩,b0⟩,λ_=>Iff.rfl,λ_=>Iff.rfl⟩;have hw:Wk (Z0 B (B+1)) (B+2) 0 ([]:List Bz) (λl=>l=B) (λl=>l=B+1) S1:=⟨b2,k1,oM,oM,trivial⟩;clear bB k1;refine bE (Ou (Z0 B (B+1)) (qyX _ _) (B+2) l hl 0 ([]:List Bz) _ _ S1 .cu [] false hw rfl) ?_;rintro r U ⟨rfl,F2,D2,k2,s2⟩;have kk:Us B (B+1) (Ac (Ex.aN Ab (aE []) false Z4 l)) F2 D2 U:=k2.st;rw[Ex.Xn (aE []) false l Z4]at kk;have he:Ac Z4++Ex.cL l=Ex.cL l:=rfl;rw[he]at kk;have h4:=kk.fc;obtain⟨bs,ck,bg,hm⟩:=kk.fm;simp[ab,h4];refine bu rfl ⟨B,rfl,bs,ck,bg,hm,⟨js kS.len s2.k.len,λl hl hn=>?_⟩,oM⟩;rw[s2.k.get l (by have:=kS.len;omega) (by rintro(hh|hh)<;>omega)];exact kS.get l hl hn
def Lss(v v':V):Prop:=v'.cells.length=v.cells.length/\∀(j:Nat) (c c':V),v.cells[j]?=some c->v'.cells[j]?=some c'->∀(E:En) (u:Value),VR E c u->VR E c' u
section
variable {S:St} {l sz wr:Nat} {xs ys:List V} (ho:S[l]?=some (.arr xs sz wr)) (hn:ys.length=xs.length) (hx:∀(i:Nat) (v v':V),xs[i]?=some v->ys[i]?=some v'->Lss v v')
include ho
include hn hx
end
def qtX{X:St}{L lm since last:Nat}{seen bs:List Nat}{es:List (V×V)}{ck:Nat}(h1:X[L]?=some (.iter lm since seen last))(h2:X[lm]?=some (.map es bs ck))(hb:∀b,b∈bs->b<since)(hs:since<=last):
  xi X (.ptr L 0 0 0)=match (es.zip bs).filter λq=>!seen.contains q.2 with
   |[]=>[(.aV [.bool false],X)]
   |c::cs=>(c::cs).map λq=>(.aV [.bool true,q.1.1,q.1.2],X.set L (.iter lm since (seen++[q.2]) ck)):=by
 have hc:(bs.all λb=>decide (b<since))=true/\since<=last:=⟨by simpa using hb,hs⟩;simp only[xi,h1,h2,ak hc];rfl
def qzy{P:aG}{d:Option Nat}{it:bK}{os:List O'}{Q:ae->St->Prop}{e:ae}{X:St}{L lm since last:Nat}{seen bs:List Nat}{es:List (V×V)}{ck:Nat}
  (qe:it.ev e=some (.ptr L 0 0 0)) (h1:X[L]?=some (.iter lm since seen last)) (h2:X[lm]?=some (.map es bs ck)) (hb:∀b,b∈bs->b<since) (hs:since<=last) (hl:es.length=bs.length)
  (hA:(∀b,b∈bs->b∈seen)->eM P os Q (e.put d (.aV [.bool false])) X)
  (hB:∀(i:Nat) (k v:V) (b:Nat),es[i]?=some (k,v)->bs[i]?=some b->b∉seen->eM P os Q (e.put d (.aV [.bool true,k,v])) (X.set L (.iter lm since (seen++[b]) ck))):
  eM P (⟨d,none,.ex (.qN it)⟩::os) Q e X:=by
 rw[qlj (by intro f a h;cases h)];have lE:cf e X (.ex (.qN it))=none:=rfl;rw[lE];show(qM e (.ex (.qN it))≠[]/\_)\/_;refine .inr ?_;have hn:sL e X (.ex (.qN it))=xi X (.ptr L 0 0 0):=by simp only[sL,qe]
 rw[hn,qtX h1 h2 hb hs]
 cases hf:(es.zip bs).filter λq=>!seen.contains q.2 with
 |nil=>
  refine⟨sM,λq hq=>?_⟩;simp at hq;subst hq;refine hA λb hbm=>?_
  obtain⟨i,hi⟩:=qX.1 hbm;have aB:=(br.1 hi).1;have hz:(es.zip bs)[i]?=some (es[i],b):=by rw[E3];exact⟨bX oM,hi⟩
  have h3:=List.filter_eq_nil_iff.1 hf _ (dZ hz);simpa using h3
 |cons c cs=>
  refine⟨sM,λq hq=>?_⟩;obtain⟨p,hp,rfl⟩:=cY.1 hq;rw[<-hf]at hp;obtain⟨mA,mB⟩:=qW.1 hp;obtain⟨i,hi⟩:=qX.1 mA;rw[E3]at hi;exact hB i p.1.1 p.1.2 p.2 hi.1 hi.2 (by simpa using mB)
def Vx{X:St}{L lm since:Nat}{seen bs:List Nat}{es:List (V×V)}{ck i b:Nat}{k v:V}(h1:X[L]?=some (.iter lm since (seen++[b]) ck))(h2:X[lm]?=some (.map es bs ck))(nd:bs.Nodup)(hk:es[i]?=some (k,v))(hi:bs[i]?=some b):
  CU X (.ptr L 0 0 0)=some (.aV [k,v]):=by
 have hf:(es.zip bs).find? (λq=>q.2==b)=some ((k,v),b):=by
  have hz:(es.zip bs)[i]?=some ((k,v),b):=by rw[E3];exact⟨hk,hi⟩
  cases hq:(es.zip bs).find? (λq=>q.2==b) with
  |none=>
   have:=HL.1 hq _ (dZ hz);simp at this
  |some q=>
   have h3:=List.find?_some hq;simp at h3;obtain⟨j,hj⟩:=qX.1 (KJ hq);have wT:=hj;rw[E3]at wT;rw[h3]at wT;have pC:i=j:=(HM (br.1 hi).1 nd).1 (hi.trans wT.2.symm);subst pC;rw[<-hj,hz]
 simp only[CU,h1,h2,ak (⟨rfl,nd⟩:ck=ck/\bs.Nodup),List.getLast?_concat];simp[hf,nd]
def Uj{P:aG}{a c:Nat}{it:bK}{id:Nat}{body:C'}{Q:dV}{e e0:ae}{S:St}{L lm since:Nat}{bs:List Nat}{es:List (V×V)}{ck:Nat}(J:List Nat->St->Prop)
  (cZ:ae.sub e0 e) (qe:it.ev e0=some (.ptr L 0 0 0)) (hl:es.length=bs.length) (hb:∀b,b∈bs->b<since)
  (h0:J [] S) (hJ:∀seen X,J seen X->(∃last,since<=last/\X[L]?=some (.iter lm since seen last))/\X[lm]?=some (.map es bs ck))
  (fin:∀seen X,J seen X->(∀b,b∈bs->b∈seen)->Q (.exit id) ((c,.bool false)::(a,.aV [.bool false])::e0) X)
  (step:∀(seen:List Nat) (X:St) (i:Nat) (k v:V) (b:Nat),J seen X→es[i]?=some (k,v)→bs[i]?=some b→b∉seen→
   WP P body (lS (λe' X'=>ae.sub e0 e'/\J (seen++[b]) X') Q) ((c,.bool true)::(a,.aV [.bool true,k,v])::e0) (X.set L (.iter lm since (seen++[b]) ck))):
  WP P (.loop (.seq (.reg [⟨some a,none,.ex (.qN it)⟩,⟨some c,none,.ext 0 (.t a)⟩]) (.seq (.cond (.t c) .skip (.exit id)) body))) Q e S:=by
 refine cE (λn e X=>e=e0/\∃seen,n=(bs.filter λb=>!decide (b∈seen)).length/\J seen X) _ e0 cZ ⟨rfl,[],rfl,h0⟩ ?_;rintro n e X ⟨rfl,seen,rfl,hj⟩;obtain⟨⟨last,Dx,h1⟩,h2⟩:=hJ _ _ hj;rw[HT,qcY];refine qzy qe h1 h2 hb Dx hl (λdq=>?_) λi k v b hk hi hn=>?_
 .simp;exact fin seen X hj dq
 .simp;refine xK (λx e' X' hx=>?_) (step seen X i k v b hj hk hi hn);cases x<;>simp only[lS]at hx |-<;>try exact hx
  obtain⟨h3,h4⟩:=hx;refine⟨_,?_,e,h3,rfl,seen++[b],rfl,h4⟩
  have h5:(bs.filter λx=>!decide (x∈seen++[b]))=(bs.filter λx=>!decide (x∈seen)).filter λx=>!decide (x=b):=by
   rw[List.filter_filter];congr 1;funext x;simp[Bool.and_comm]
  rw[h5];exact List.length_filter_lt_length_iff_exists.2 ⟨b,qW.2 ⟨dZ hi,by simpa using hn⟩,sM⟩
def rJ(l:List Bz)(es:List Ae):List Bz:=l++es.flatMap λe=>e.2.gm
def qse{ks:List Bz}{x:Bz}(h:ks.Nodup):(eo ks x).Nodup:=Bh (l:=[x]) h
def Tk(T:Nat)(q:Bz->Prop)(X:St):Prop:=∃(ks:List Bz) (bs:List Nat) (ck:Nat),ii bs ck/\X[T]?=some (.map (ks.map kv) bs ck)/\ks.Nodup/\∀x,x∈ks↔q x
def Tk.keep{T:Nat}{q:Bz->Prop}{X Y:St}(h:Tk T q X)(hk:Y[T]?=X[T]?):Tk T q Y:=by
 obtain⟨ks,bs,ck,a,b,c⟩:=h;exact⟨ks,bs,ck,a,by rw[hk];exact b,c⟩
def Tk.same{T:Nat}{q q':Bz->Prop}{X:St}(h:Tk T q X)(hq:∀x,q x↔q' x):Tk T q' X:=by
 obtain⟨ks,bs,ck,a,b,c,d⟩:=h;exact⟨ks,bs,ck,a,b,c,λx=>(d x).trans (hq x)⟩
def Tk.add{T:Nat}{q:Bz->Prop}{X:St}(h:Tk T q X)(b:Bool)(l:List Bz)(hl:l.length<=1000000):
  aA prog 79 [.map T,.sl b (l.map .str)] X (λ_ U=>Tk T (λx=>q x\/x∈l) U/\Kp (λk=>k=T) X U/\U.length=X.length):=by
 obtain⟨ks,bs,ck,h1,h2,h3,h4⟩:=h;refine aA.mono (ZC b l ks bs ck T X hl h2) ?_;rintro r U ⟨fA,iw,hs,rfl⟩;exact⟨⟨l.foldl eo ks,fA,iw,hs h1,bO (aR h2),Bh h3,λx=>by rw[qi,h4]⟩,(Kp.refl _ _).set _ (.inl rfl),sM⟩
def Sm.qmA(s:Sm)(va:(Pa.st s).valid aH=true){taken:List Bz}(hl:s.fu.length+Sm.bH [s]+taken.length<=899):∀x,x∈s.jj taken->x.size<=16:=by
 refine qdr _ _ _ _ (λx hx=>by simp at hx) (λx hx=>GU (s.La va x hx)) ?_;have h1:=Gy (l:=taken) (ks:=[]);have h3:=s.wz;simp only[qy]at h1 |-;omega
def Sm.Uw(s:Sm)(hs:s.ok)(va:(Pa.st s).valid aH=true){taken:List Bz}(hl:s.fu.length+Sm.bH [s]+taken.length<=899):(s.ap taken).ok:=
 Sm.qzl (f:=lf (s.jj taken)) (N:=1000) (λk _=>qs5 (s.qmA va hl) k) s oM hs
def jA(s:Sm)(l:List Bz)(es:List Ae):Sm:=s.ap (rJ l es)
def yN(s:Sm)(l:List Bz)(es:List Ae):Bool:=kM ((jA s l es).ou (eT (eS es)) (false:Bool))
def tW(s:Sm)(l:List Bz)(es:List Ae):Sm:=(jA s l es).vM (eT (eS es))
def qS(s:Sm)(l:List Bz)(es:List Ae):Int:=if(Pa.st (jA s l es)).err aH≠0 then(Pa.st (jA s l es)).err aH else if yN s l es=true then 10 else(Pa.st (tW s l es)).err aH
def sR(s:Sm)(l:List Bz)(es:List Ae):V:=if qS s l es=0 then(tW s l es).v else bL
def qhj:∀{ks L:List Bz},ks.Nodup->(∀x,x∈ks->x∈L)->ks.length<=L.length
 |[],_,_,_=>fS _
 |x::ks,L,nd,h=>by
  have nd:=List.nodup_cons.1 nd;have hx:=h x sM;have:=qhj (L:=L.filter λy=>decide (y≠x)) nd.2 λy hy=>qW.2 ⟨h y (by simp[hy]),by simpa usingλe:y=x=>nd.1 (e ▸ hy)⟩
  have h2:=List.length_filter_lt_length_iff_exists (p:=λy=>decide (y≠x)).2 ⟨x,hx,sM⟩;rw[gq];omega
def Js{x:Bz}{y:Ex}:∀{es:List Ae},eS es x=some y->(x,y)∈es
 |e::es,h=>by
  simp only[eS]at h;split at h
  .rename_i hx;cases h;rw[<-hx];simp
  .exact uE _ (Js h)
def Zc{es:List Ae}(ho:∀e,e∈es->e.2.ok):Ug (eT (eS es)) where
 ok g hg x sc tg hx:=by
  cases hg
  have ht:(pJ (eS es) sc x.text).size<=bi:=by
   unfold pJ Et;have hxt:x.text.size<=bi:=by cases x;exact hx.1
   cases sc.at x.text with
   |some k=>exact hxt
   |none=>
    cases hy:eS es x.text with
    |none=>exact hxt
    |some y=>
     have:=ho _ (Js hy);cases y;exact this.1
  show Ex.ok (if x.kind=6 then xp (eS es) sc x else _);split
  .unfold xp
   cases sc.at x.text with
   |some k=>exact hx
   |none=>
    cases hy:eS es x.text with
    |none=>exact hx
    |some y=>exact ho _ (Js hy)
  .cases x;exact⟨ht,hx.2.1,hx.2.2⟩
 f _ _ hx:=hx
 cl c hc x sc hx:=by
  cases hc;show(pJ (eS es) sc x).size<=bi;unfold pJ Et
  cases sc.at x with
  |some k=>exact hx
  |none=>
   cases hy:eS es x with
   |none=>exact hx
   |some y=>
    have:=ho _ (Js hy);cases y;exact this.1
def qyi(s:Sm)(hs:s.ok)(va:(Pa.st s).valid aH=true)(bF:(Pa.st s).size<=4000)(b:Bool)(l:List Bz)(es:List Ae)(hl:l.length<=1000)(hz:∀e,e∈es->(Pa.ex e.2).size<=4000)(ho:∀e,e∈es->e.2.ok)
  (jw:s.fu.length+Sm.bH [s]+(rJ l es).length<=899) (m:Nat) (bs:List Nat) (ck:Nat) (jZ:ii bs ck) (hlen:bs.length=es.length) (S:St) (hm:S[m]?=some (.map (es.map td) bs ck)):
  aA prog 81 [s.v,.sl b (l.map .str),.map m] S (λr U=>r=.aV [sR s l es,af (qS s l es)]/\bz S U):=by
 refine aA.ib C81 ?_;obtain⟨S1,bB⟩:=eX (α:=St) (S++[.arr [s.v] 8 1,.arr [bL] 8 1]);have b0:S1[S.length]?=aJ [s.v] 8:=by rw[bB];simp
 have b1:S1[S.length+1]?=aJ [bL] 8:=by rw[bB,cx oM];simp
 have l1:S1.length=S.length+2:=by rw[bB];simp
 have kS:bz S S1:=by rw[bB];exact(Kp.refl _ _).push _
 have m1:=kS.at hm id;have lm:=aR hm;have he:qS s l es=if(Pa.st (jA s l es)).err aH≠0 then(Pa.st (jA s l es)).err aH else if yN s l es=true then 10 else(Pa.st (tW s l es)).err aH:=rfl
 have hv:sR s l es=if qS s l es=0 then(tW s l es).v else bL:=rfl
 have fin:∀(Y:St) (y:V) (e:Int) (ev:ae),bz S1 Y->sR s l es=y->qS s l es=e->ev.get 6=some (ag (S.length+1))->ev.get 7=some (af e)->V.part y 0 (some 8)=some y->
   eN [.cell 6 (some 8),.t 7] S.length (λr U=>r=.aV [sR s l es,af (qS s l es)]/\bz S U) .ret ev (Y.set (S.length+1) (.arr [y] 8 1)):=λY y e ev kY hy he g6 g7 hp=>by
  have h1:=kY.at b1 id;have h2:(Y.set (S.length+1) (.arr [y] 8 1))[S.length+1]?=aJ [y] 8:=bO (aR h1);exact bu (vs:=[y,af e]) (by simp[eL,g6,g7,ab,h2,hp]) ⟨by rw[hy,he];rfl,(kS.trans kY).set _ (.inr oM)⟩
 simp only[C81,fW];refine cS (λe U=>U=S1/\e.get 1=some (.sl b (l.map .str))/\e.get 2=some (.map m)/\e.get 3=some (ag S.length)/\e.get 6=some (ag (S.length+1))) (by rw[bB];simp[aL,jV]) ?_;rintro e U ⟨rfl,g1,g2,g3,g6⟩;refine cS (λe Z1=>Z1=U++[.map [] [] 0]/\e.get 8=some (.map U.length)/\e.get 1=some (.sl b (l.map .str))/\e.get 2=some (.map m)/\e.get 3=some (ag S.length)/\e.get 6=some (ag (S.length+1))) (by simp[bI,g1,g2,g3,g6]) ?_;clear g1 g2 g3 g6 e;rintro e Z1 ⟨hV,g8,g1,g2,g3,g6⟩;have kV:bz U Z1:=by rw[hV];exact(Kp.refl _ _).push _
 have tV:Tk U.length (λ_=>False) Z1:=⟨[],[],0,ii.nil,by rw[hV];simp,uF,λx=>by simp⟩;have lV:Z1.length=U.length+1:=by rw[hV];simp
 clear hV;refine cS (λe X=>bz U X/\U.length+1<=X.length/\Tk U.length (λx=>x∈l) X/\e.get 8=some (.map U.length)/\e.get 1=some (.sl b (l.map .str))/\e.get 2=some (.map m)/\e.get 3=some (ag S.length)/\e.get 6=some (ag (S.length+1))) ?_ ?_
 .simp[g8,g1];refine bE (tV.add b l oM) ?_;rintro r X ⟨tX,kX,lX⟩;simp[g8,g1,g2,g3,g6];refine⟨⟨oM,λk hk _=>?_⟩,oM,tX.same sM⟩;rw[kX.get k oM oM,kV.get k hk id]
 clear g8 g1 g2 g3 g6 e tV;rintro e X ⟨kX,lX,tX,g8,g1,g2,g3,g6⟩;refine cS (λe Y=>bz U Y/\U.length+1<=Y.length/\Tk U.length (λx=>x∈rJ l es) Y/\e.get 8=some (.map U.length)/\e.get 2=some (.map m)/\e.get 3=some (ag S.length)/\e.get 6=some (ag (S.length+1))) ?_ ?_
 .have mX:=kX.at m1 id;simp[bI,g2,Bv,mX];obtain⟨L,hL⟩:=eX (X.length);obtain⟨X2,uS⟩:=eX (α:=St) (X++[.iter m ck [] ck]);rw[<-uS,<-hL];have XJ:X2[L]?=some (.iter m ck [] ck):=by rw[uS,hL];simp
  have XU:bz U X2:=by rw[uS];exact kX.push _
  have ZS:Tk U.length (λx=>x∈l) X2:=tX.keep (by rw[uS,dh oM]);have lX2:X2.length=L+1:=by rw[uS,hL];simp
  clear uS;obtain⟨J,hJ⟩:∃J:List Nat->St->Prop,∀seen Y,J seen Y↔(bz U Y/\L+1<=Y.length/\Y[L]?=some (.iter m ck seen ck)/\Tk U.length (λx=>x∈l\/∃(i:Nat) (e:Ae) (b:Nat),es[i]?=some e/\bs[i]?=some b/\b∈seen/\x∈e.2.gm) Y):=⟨_,λ_ _=>Iff.rfl⟩;refine Uj (L:=L) (lm:=m) (since:=ck) (bs:=bs) (es:=es.map td) (ck:=ck) (e0:=[(22,.ptr L 0 0 0),(8,.map U.length),(6,ag (S.length+1)),(3,ag S.length),(2,.map m)]) J
   ?_ (by simp[bK.ev]) (by simp[hlen]) jZ.1 ((hJ _ _).2 ⟨XU,oM,XJ,ZS.same λx=>by simp⟩) ?_ ?_ ?_
  .repeat' first|exact ae.gZ _|refine ae.fp (by simp[g8,g2,g3,g6]) ?_
  .intro seen Y hj;obtain⟨h1,_,h2,_⟩:=(hJ _ _).1 hj;exact⟨⟨ck,dl _,h2⟩,h1.at m1 id⟩
  .intro seen Y hj dq;obtain⟨h1,h2,h3,h4⟩:=(hJ _ _).1 hj;simp;refine⟨h1,oM,h4.same λx=>?_⟩;unfold rJ;rw[cU,yX];refine or_congr_right ⟨?_,?_⟩
   .rintro⟨i,e,b,hi,_,_,hx⟩;exact⟨e,dZ hi,hx⟩
   .rintro⟨e,he,hx⟩;obtain⟨i,hi⟩:=qX.1 he;have aB:=(br.1 hi).1;have hb:=bX (l:=bs) (i:=i) oM;exact⟨i,e,bs[i],hi,hb,dq _ (dZ hb),hx⟩
  .intro seen Y i k v b' hj hk hb hn;obtain⟨h1,h2,h3,h4⟩:=(hJ _ _).1 hj;rw[dS,ep]at hk;obtain⟨e1,hi,MO⟩:=hk;cases MO;have x8:(Y.set L (.iter m ck (seen++[b']) ck))[L]?=some (.iter m ck (seen++[b']) ck):=bO (aR h3)
   have L0:(Y.set L (.iter m ck (seen++[b']) ck))[m]?=some (.map (es.map td) bs ck):=by
    rw[bG (by have:=aR m1;omega)];exact h1.at m1 id
   have uU:=Vx x8 L0 jZ.2 (by rw[dS,hi];rfl) hb;obtain⟨Y2,x9⟩:=eX (Y.set L (.iter m ck (seen++[b']) ck));have NA:bz U Y2:=by rw[x9];exact h1.set _ (.inr oM)
   have ZT:=h4.keep (Y:=Y2) (by rw[x9,bG oM]);have lY2:Y2.length=Y.length:=by rw[x9];simp
   rw[<-x9]at x8 L0 uU |-;clear x9;have W8:V.fZ zX 0 7 e1.2.v=some e1.2.v:=by rw[aU];simp
   have hea:(td e1).2=e1.2.v:=rfl;have mN:fits 7 [e1.2.v]=true:=by simp[fits]
   simp[bI,uU,aL,aI,hea,W8,ab,mN];obtain⟨Y3,nR⟩:=eX (α:=St) (Y2++[.arr [e1.2.v] 7 1]);have kY3:bz Y2 Y3:=by rw[nR];exact(Kp.refl _ _).push _
   rw[<-nR];clear nR;refine bE (qkH true [e1.2] (by have:=hz e1 (dZ hi);simp[iN,bk];omega) Y3) ?_;rintro r Y4 ⟨M,Fp,pa,rfl,vi,hM,kY4,hMl⟩;have Q6:Ex.cL [e1.2]=e1.2.gm:=by simp[Ex.cL]
   rw[Q6]at hM;obtain⟨Jp,Q0⟩:=eX (e1.2.gm.foldl eo []);rw[<-Q0]at hM;have lM:=aR hM;simp[bI,Bv,hM];obtain⟨L2,Wl⟩:=eX (Y4.length);obtain⟨Y5,yc⟩:=eX (α:=St) (Y4++[.iter M pa [] pa]);rw[<-yc,<-Wl];have qgu:bz Y4 Y5:=by rw[yc];exact(Kp.refl _ _).push _
   have iY5:Y5[L2]?=some (.iter M pa [] pa):=by rw[yc,Wl];simp
   have k25:bz Y2 Y5:=(kY3.trans kY4).trans qgu;have M5:=qgu.at hM id;have L5:=k25.at x8 id;have T5:=ZT.keep (k25.get U.length oM id);have l5:L2+1<=Y5.length:=by rw[yc,Wl];simp
   have lY3:=kY3.len;clear yc;obtain⟨J2,LR⟩:∃J2:List Nat->St->Prop,∀zV Z,J2 zV Z↔(bz U Z/\L2+1<=Z.length/\Z[L]?=some (.iter m ck (seen++[b']) ck)/\Z[M]?=some (.map (Jp.map kv) Fp pa)/\Z[L2]?=some (.iter M pa zV pa)/\Tk U.length (λx=>(x∈l\/∃(i:Nat) (e:Ae) (b:Nat),es[i]?=some e/\bs[i]?=some b/\b∈seen/\x∈e.2.gm)\/∃(i:Nat) (b:Nat),Jp[i]?=some x/\Fp[i]?=some b/\b∈zV) Z):=⟨_,λ_ _=>Iff.rfl⟩;have mz:(Jp.map kv).length=Fp.length:=by rw[bQ,vi.2,Q6,Q0]
   refine Uj (L:=L2) (lm:=M) (since:=pa) (bs:=Fp) (es:=Jp.map kv) (ck:=pa) (e0:=[(30,.ptr L2 0 0 0),(22,.ptr L 0 0 0),(8,.map U.length),(6,ag (S.length+1)),(3,ag S.length),(2,.map m)]) J2
    ?_ (by simp[bK.ev]) mz vi.1.1 ((LR _ _).2 ⟨NA.trans k25,l5,L5,M5,iY5,T5.same λx=>by simp⟩) ?_ ?_ ?_
   .exact ba
   .intro zV Z hj;obtain⟨_,_,_,q1,q2,_⟩:=(LR _ _).1 hj;exact⟨⟨pa,dl _,q2⟩,q1⟩
   .intro zV Z hj Wy;obtain⟨q1,q2,q3,q4,q5,q6⟩:=(LR _ _).1 hj;simp;refine⟨?_,(hJ _ _).2 ⟨q1,oM,q3,q6.same λx=>?_⟩⟩
    .exact ba
    .constructor
     .rintro((hx|⟨j,e,b2,h5,h6,h7,h8⟩)|⟨j,b2,h5,h6,h7⟩)
      .exact .inl hx
      .exact .inr ⟨j,e,b2,h5,h6,by simp[h7],h8⟩
      .refine .inr ⟨i,e1,b',hi,hb,sM,?_⟩;have:=dZ h5;rw[Q0,qi]at this;simpa using this
     .rintro(hx|⟨j,e,b2,h5,h6,h7,h8⟩)
      .exact .inl (.inl hx)
      .rcases cU.1 h7 with h7|h7
       .exact .inl (.inr ⟨j,e,b2,h5,h6,h7,h8⟩)
       .simp at h7;subst h7;have pC:i=j:=(HM (br.1 hb).1 jZ.2).1 (hb.trans h6.symm);subst pC;rw[hi]at h5;cases h5;have kK:x∈Jp:=by rw[Q0,qi];exact .inr h8
        obtain⟨j2,wT⟩:=qX.1 kK;rw[bQ]at mz;have aB:=(br.1 wT).1;have pw:=bX (l:=Fp) (i:=j2) oM;exact .inr ⟨j2,Fp[j2],wT,pw,Wy _ (dZ pw)⟩
   .intro zV Z i2 k2 v2 b2 hj eU pw nw;obtain⟨q1,q2,q3,q4,q5,q6⟩:=(LR _ _).1 hj;rw[dS,ep]at eU;obtain⟨x2,kK,qqW⟩:=eU;cases qqW;have Wu:(Z.set L2 (.iter M pa (zV++[b2]) pa))[L2]?=some (.iter M pa (zV++[b2]) pa):=bO (aR q5)
    have Wv:(Z.set L2 (.iter M pa (zV++[b2]) pa))[M]?=some (.map (Jp.map kv) Fp pa):=by
     rw[bG oM];exact q4
    have qfj:=Vx Wu Wv vi.1.2 (by rw[dS,kK];rfl) pw;obtain⟨Z2,IQ⟩:=eX (Z.set L2 (.iter M pa (zV++[b2]) pa));have RE:bz U Z2:=by rw[IQ];exact q1.set _ (.inr oM)
    have tZ2:=q6.keep (Y:=Z2) (by rw[IQ,bG oM]);have lZ2:Z2.length=Z.length:=by rw[IQ];simp
    have cZ2:Z2[L]?=some (.iter m ck (seen++[b']) ck):=by rw[IQ,bG oM];exact q3
    rw[<-IQ]at Wu Wv qfj |-;clear IQ;have qqL:fits 1 [V.str x2]=true:=rfl;simp[bI,qfj,kv,qqL];refine bE (tZ2.add true [x2] sM) ?_;rintro r Z3 ⟨tZ3,RF,lZ3⟩;simp;refine⟨?_,(LR _ _).2 ⟨⟨oM,λk hk _=>?_⟩,oM,RF.at cZ2 oM,RF.at Wv oM,RF.at Wu oM,tZ3.same λx=>?_⟩⟩
    .exact ba
    .have:=RE.len;rw[RF.get k oM oM,RE.get k hk id]
    .rw[or_assoc];refine or_congr_right ?_;constructor
     .rintro(⟨j,b3,h5,h6,h7⟩|h5)
      .exact⟨j,b3,h5,h6,by simp[h7]⟩
      .simp at h5;subst h5;exact⟨i2,b2,kK,pw,sM⟩
     .rintro⟨j,b3,h5,h6,h7⟩;rcases cU.1 h7 with h7|h7
      .exact .inl ⟨j,b3,h5,h6,h7⟩
      .simp at h7;subst h7;have pC:i2=j:=(HM (br.1 pw).1 vi.1.2).1 (pw.trans h6.symm);subst pC;rw[kK]at h5;cases h5;exact .inr sM
 clear g8 g1 g2 g3 g6 e tX;rintro e Y ⟨kY,lY,⟨ks,fA,iw,_,mY,nd,Dv⟩,g8,g2,g3,g6⟩;obtain⟨a,ha⟩:=eX (jA s l es)
 have haw:s.whole (lf (jt ks s.fu [] s.bounds))=a:=by
  rw[ha];unfold jA Sm.ap Sm.jj;rw[PN (BK:=(rJ l es).foldl eo []) (λx=>by rw[Dv,qi];simp) (λ_=>Iff.rfl)]
 have mz:ks.length<=(rJ l es).length:=qhj nd λx hx=>(Dv x).1 hx
 have Ff:a.ok:=by rw[ha];exact s.Uw hs va jw
 have UG:(Pa.st a).size<=4000:=by
  have:=(Sm.vK (lf (s.jj (rJ l es))) s [ar s.labels 0] (ar s.labels 0).length).1;rw[ha];exact js this bF
 have anb:Sm.bH [a]=Sm.bH [s]:=by
  rw[<-Sm.wz,ha,jA,Sm.qds va jw,Sm.UA]
 refine cS (λe Z=>bz U Z/\(∃A,U.length<=A/\e.get 12=some (ag A)/\Z[A]?=aJ [if(Pa.st a).err aH=0 then a.v else bL] 8)/\e.get 13=some (af ((Pa.st a).err aH))/\e.get 2=some (.map m)/\e.get 3=some (ag S.length)/\e.get 6=some (ag (S.length+1))) ?_ ?_
 .have c0:=kY.at b0 id;have d0:ab Y (ag S.length) (some 8)=some s.v:=by simp[ab,c0]
  simp[g8,g3,d0];refine bE (qyn s hs va bF ks oM U.length fA iw Y mY) ?_;rintro r Z ⟨rfl,kZ⟩;rw[haw];simp;refine bE (ZD a Ff Z) ?_;rintro r Z2 ⟨rfl,RE⟩;have kk:=(kY.trans kZ).trans RE;obtain⟨q,hq⟩:=eX (if(Pa.st a).err aH=0 then a.v else bL)
  have oP:V.fZ bL 0 8 q=some q:=by
   rw[hq];split
   .unfold bL;rw[aU];simp
   .rfl
  unfold bL at oP;rw[<-hq];simp[aL,aI,oP,g2,g3,g6];exact⟨kk.push _,_,kk.len,rfl,sM⟩
 clear g8 g2 g3 g6 e;rintro e Z ⟨kZ,⟨A,hA,g12,zA⟩,g13,g2,g3,g6⟩;rw[<-ha]at he;refine cS (λe Z'=>Z'=Z/\(Pa.st a).err aH=0/\e.get 12=some (ag A)/\e.get 2=some (.map m)/\e.get 6=some (ag (S.length+1))) ?_ ?_
 .have z1:=kZ.at b1 id;by_cases h0:(Pa.st a).err aH=0
  .simp[g13,h0,g12,g2,g6]
  .rw[ak h0]at he;rw[he,au h0]at hv;simp[g13,h0,bR,bP,aI,g6,z1,aU];refine fin _ bL _ _ kZ hv he ?_ ?_ rfl<;>simp[g6]
 clear g12 g13 g2 g3 g6 e;rintro e Z' ⟨rfl,h0,g12,g2,g6⟩;rw[au (by rw[h0];simp)]at he;rw[ak h0]at zA;have av:=(zh h0).2;refine cS (λe X'=>qcI es m Z' (.aV [(e.get 14).getD .cu,(e.get 15).getD .cu]) X'/\e.get 12=some (ag A)/\(∃x,e.get 14=some x)/\(∃x,e.get 15=some x)/\e.get 6=some (ag (S.length+1))) ?_ ?_
 .simp[g2];refine bE (qyo es m bs ck Z' (kZ.at m1 id)) ?_;rintro r X' ⟨w,cb,cg,ct,F,D,rfl,h1,h2,h3,h4,h5⟩;simp[g12,g6];exact⟨w,cb,cg,ct,F,D,rfl,h1,h2,h3,h4,h5⟩
 clear g12 g2 g6 e;rintro e X' ⟨⟨w,cb,cg,ct,F,D,hr,h1,h2,h3,h4,h5⟩,g12,⟨x14,g14⟩,⟨x15,g15⟩,g6⟩;rw[g14,g15]at hr;simp only[HQ,V.aV.injEq,List.cons.injEq,and_true]at hr;obtain⟨rfl,rfl⟩:=hr;have jN:(Om es cb m cg ct).Ok:=qvQ es cb m cg ct λx y hy=>hz _ (Js hy)
 obtain⟨o,hO⟩:=eX (a.vM (eT (eS es)));have hoS:tW s l es=o:=by rw[hO,ha];rfl
 have R7:o.ok:=by rw[hO];exact Sm.qad (Zc ho) a Ff
 have hF:yN s l es=kM (a.ou (eT (eS es)) (false:Bool)):=by rw[ha];rfl
 refine cS (λe W=>bz U W/\(∃B,U.length<=B/\e.get 16=some (ag B)/\W[B]?=aJ [o.v] 8)/\W[cg]?=aJ [.bool (yN s l es)] 1/\e.get 15=some (ag cg)/\e.get 6=some (ag (S.length+1))) ?_ ?_
 .have c0:=h5.at zA id;have d0:ab X' (ag A) (some 8)=some a.v:=by simp[ab,c0]
  simp[g14,g12,d0];refine bE (ZB (Om es cb m cg ct) jN w a Ff UG (false:Bool) F D X' h1 (by show Sm.bH [a]<=100001;omega)) ?_;rintro r W ⟨rfl,F2,D2,k2,s2⟩;have bg:kR es cb m cg ct (a.ou (eT (eS es)) (false:Bool)) F2 D2 W:=k2.st;have hg:W[cg]?=aJ [.bool (yN s l es)] 1:=by rw[hF];exact bg.g
  have kW:bz U W:=⟨js (kZ.trans h5).len s2.k.len,λk hk _=>by
   have q1:=kZ.len;have q2:=h5.len;rw[s2.k.get k oM (by rintro(hh|hh);omega;have:=(h4 k).1 hh;omega)];exact(kZ.trans h5).get k hk id⟩
  rw[show a.vM (Om es cb m cg ct).toPw=o from hO.symm];have oP:V.fZ bL 0 8 o.v=some o.v:=by unfold bL;rw[aU];simp
  unfold bL at oP;have aB:=aR hg;simp[aL,aI,oP,g15,g6];exact⟨kW.push _,⟨_,kW.len,rfl,sM⟩,by rw[dh aB];exact hg⟩
 clear g12 g14 g15 g6 e;rintro e W ⟨kW,⟨B,hB,g16,wB⟩,wg,g15,g6⟩;have w1:=kW.at b1 id;rw[hoS]at he hv
 cases hf:yN s l es with
 |true=>
  rw[hf]at wg;rw[hf,ak rfl]at he;rw[he,au (by decide)]at hv;simp[g15,dK,ab,wg,bR,bP,aI,g6,w1,aU];refine fin _ bL _ _ kW hv he ?_ ?_ rfl<;>simp[g6]
 |false=>
  rw[hf]at wg;rw[hf,au sM]at he;have d0:ab W (ag B) (some 8)=some o.v:=by simp[ab,wB]
  have dg:ab W (ag cg) none=some (.bool false):=by simp[ab,wg]
  simp[g15,dK,dg,g16,d0];refine bE (ZD o R7 W) ?_;rintro r W2 ⟨rfl,Ny⟩;have w2:=Ny.at w1 id;by_cases MW:(Pa.st o).err aH=0
  .rw[he,ak MW]at hv;rw[MW]at he;simp[MW,aI,g6,w2,aU];refine fin _ o.v 0 _ (kW.trans Ny) hv he ?_ ?_ (yF _)<;>simp[g6]
  .rw[he,au MW]at hv;simp[MW,aI,g6,w2,aU];refine fin _ bL _ _ (kW.trans Ny) hv he ?_ ?_ rfl<;>simp[g6]
set_option maxHeartbeats 0
set_option maxRecDepth 100000
noncomputable def C84:=aW func84
noncomputable def C85:=aW func85
noncomputable def C98:=aW func98
noncomputable def C49:=aW func49
end Go.Proofs.YtbifpocccfkhhaaGreatDoor

namespace Go.Proofs.YtbifpocccfkhhaaGreatDoor
open Go Go.Proofs.Tryz
def qof{xs:List Ex}{i:Nat}(h:i<xs.length):lu (xs.drop i)=if(Pa.ex xs[i]).err aH≠0 then(Pa.ex xs[i]).err aH else lu (xs.drop (i+1)):=by
 rw[xE h,lu]
def qkM(b:Bool)(xs:List Ex)(hl:xs.length<=1000)(ho:∀x,x∈xs->x.ok)(S:St):Fn prog 84 [.sl b (xs.map Ex.v)] S (af (lu xs)):=by
 refine aA.ib C84 ?_;simp[C84];refine eA (λe U=>U=S/\lu xs=0) ?_ ?_
 .refine cE (λj e U=>∃i:Nat,j=xs.length-i/\i<=xs.length/\U=S/\lu xs=lu (xs.drop i)/\e=[(3,af i),(0,.sl b (xs.map Ex.v))]) xs.length _ ?_ ⟨0,sM,oM,rfl,sM,rfl⟩ ?_
  .exact ba
  rintro j e U ⟨i,rfl,hi,rfl,hd,rfl⟩;by_cases h:i<xs.length
  case neg=>
   have:i=xs.length:=oM;subst this;simp;rw[hd,List.drop_length];rfl
  simp[h,qJ];refine aZ (qx4 xs[i] (ho _ (dz h)) U) ?_;have hs:=qof h;by_cases he:(Pa.ex xs[i]).err aH=0
  .rw[au (by rw[he];simp)]at hs;simp[he,dP,eF,eZ];rw[cG i];refine⟨_,?_,_,?_,i+1,rfl,oM,by rw[hd,hs],rfl⟩
   .omega
   .exact ba
  .rw[ak he]at hs;simp[he];exact bu rfl ⟨by rw[hd,hs];rfl,rfl⟩
 .rintro e U ⟨rfl,he⟩;simp;exact bu rfl ⟨by rw[he];rfl,rfl⟩
def qtQ{l:List Bz}{i:Nat}(h:i<l.length):(l.take (i+1)).Nodup↔(l.take i).Nodup/\l[i]∉l.take i:=by
 rw[dN,bX h,iP,HO];constructor
 .rintro⟨h1,_,h3⟩;exact⟨h1,λhm=>h3 _ hm _ sM rfl⟩
 .rintro⟨h1,h2⟩;refine⟨h1,sM,λa ha b hb e=>?_⟩;simp only[sZ]at hb;rw[e,hb]at ha;exact h2 ha
def qmh{l:List Bz}{i:Nat}(h:i<l.length):iQ (l.take (i+1)) (λs=>!aH s)=(iQ (l.take i) (λs=>!aH s)||!aH l[i]):=by
 unfold iQ;rw[dN,bX h,iP,EX];simp
def qwH{l:List Bz}{i:Nat}(hi:i<=l.length)(b:Bool)(S:St):BB S 1 (.sl b (l.map .str)) none (some (i:Int))=some (.sl (b&&decide ((i:Int)=l.length)) ((l.take i).map .str)):=by
 have h1:((l.map V.str).all λv=>v.size==1)=true:=by
  rw[fR];intro v hv;obtain⟨x,_,rfl⟩:=cY.1 hv;rfl
 unfold BB kO;simp only[KR,HQ,bQ];rw[ak ⟨oM,oM,oM,h1⟩];simp[KI]
def qyp(b b':Bool)(l:List Bz)(xs:List Ex)(hl:l.length<=1000)(hx:xs.length<=1000)(ho:∀x,x∈xs->x.ok)(S:St):Fn prog 98 [.sl b (l.map .str),.sl b' (xs.map Ex.v)] S (af (vA l xs)):=by
 refine aA.ib C98 ?_;have hp:vA l xs=if l.length≠xs.length\/(iQ l λs=>!aH s)=true then 1 else if ¬l.Nodup then 6 else lu xs:=rfl
 simp[C98];by_cases hlen:l.length=xs.length
 case neg=>
  rw[ak (.inl hlen)]at hp;simp[show ¬((l.length:Int)=xs.length) by omega];exact bu rfl ⟨by rw[hp];rfl,rfl⟩
 simp[show((l.length:Int)=xs.length) by omega];refine eA (λe U=>U=S/\(iQ l λs=>!aH s)=false/\e.get 0=some (.sl b (l.map .str))/\e.get 1=some (.sl b' (xs.map Ex.v))) ?_ ?_
 .refine cE (λj e U=>∃i:Nat,j=l.length-i/\i<=l.length/\U=S/\(iQ (l.take i) λs=>!aH s)=false/\e=[(5,af i),(0,.sl b (l.map .str)),(1,.sl b' (xs.map Ex.v))]) l.length _ ?_ ⟨0,sM,oM,rfl,rfl,rfl⟩ ?_
  .exact ba
  rintro j e U ⟨i,rfl,hi,rfl,hd,rfl⟩;by_cases h:i<l.length
  case neg=>
   have:i=l.length:=oM;subst this;rw[gu]at hd;simp[hd]
  simp[h,oR];refine aZ (vE l[i] U) ?_;have hs:=qmh h;rw[hd,Kr]at hs
  cases hn:aH l[i] with
  |true=>
   rw[hn]at hs;simp[dP,eF,eZ];rw[cG i];refine⟨_,?_,_,?_,i+1,rfl,oM,hs,rfl⟩
   .omega
   .exact ba
  |false=>
   rw[hn]at hs
   have:(iQ l λs=>!aH s)=true:=by
    unfold iQ;rw[Am];exact⟨l[i],dz h,by simp[hn]⟩
   rw[ak (.inr this)]at hp;simp;exact bu rfl ⟨by rw[hp];rfl,rfl⟩
 rintro e U ⟨rfl,ha,g0,g1⟩;rw[au (by rw[ha];simp[hlen])]at hp;simp[g0,g1];refine eA (λe U'=>U'=U/\l.Nodup/\e.get 1=some (.sl b' (xs.map Ex.v))) ?_ ?_
 .refine cE (λj e U'=>∃i:Nat,j=l.length-i/\i<=l.length/\U'=U/\(l.take i).Nodup/\e=[(7,af i),(0,.sl b (l.map .str)),(1,.sl b' (xs.map Ex.v))]) l.length _ ?_ ⟨0,sM,oM,rfl,uF,rfl⟩ ?_
  .repeat' first|exact ae.gZ _|refine ae.fp (by simp[g0,g1]) ?_
  rintro j e U' ⟨i,rfl,hi,rfl,hd,rfl⟩;by_cases h:i<l.length
  case neg=>
   have:i=l.length:=oM;subst this;rw[gu]at hd;simp[hd]
  have hs:=qtQ h;have aN:=qwH (l:=l) (i:=i) hi b U';simp[h,oR,↓Ls,oI,aN,dP,eF,eZ,DU]
  have q:Fn prog 34 [.sl (b&&decide ((i:Int)=l.length)) ((l.map V.str).take i),.str l[i]] U' (.bool (eJ l[i] (l.take i))):=by
   rw[<-KI];exact qx1 _ (l.take i) l[i] U' (by rw[qz];omega)
  refine aZ q ?_
  cases hn:eJ l[i] (l.take i) with
  |true=>
   have:¬l.Nodup:=λhh=>by
    have h2:=hs.1 (hh.sublist (List.take_sublist _ _));exact h2.2 (mU.1 hn)
   rw[ak this]at hp;simp;exact bu rfl ⟨by rw[hp];rfl,rfl⟩
  |false=>
   simp[dP,eF,eZ];rw[cG i];refine⟨_,?_,_,?_,i+1,rfl,oM,hs.2 ⟨hd,zB.1 hn⟩,rfl⟩
   .omega
   .exact ba
 .rintro e U' ⟨rfl,hn,g1⟩;rw[au (by simp[hn])]at hp;simp[g1];refine aZ (qkM b' xs hx ho U') ?_;simp;exact bu rfl ⟨by rw[hp];rfl,rfl⟩
def Ex.EG{nm:Bz->Bool}{k o n m e:Int}{t t':Bz}{a a':List Ex}(ha:a'.length=a.length)(h1:Ex.named k=true->nm t'=true)(h2:¬Ex.named k=true->t'=t)
  (v:Ex.bp nm (.mk k o n m e t a)=true):Ex.bp nm (.mk k o n m e t' a')=true:=by
 by_cases hn:Ex.named k=true
 .have ht:=h1 hn;have hk:k=6\/k=7\/k=8:=by simpa[Ex.named,or_assoc]using hn
  rcases hk with rfl|rfl|rfl<;>simp[Ex.bp]at v<;>simp[Ex.bp,ha,ht,v]
 .rw[h2 hn];simp only[Ex.bp]at v |-;rw[ha];exact v
def Sm.EG{nm:Bz->Bool}{l l':List Bz}{k:Int}{t t':Bz}{g g' e e':List Ex}{h h':List El}{d d':List De}{b b':List Sm}
  (hl:l'.all nm=true) (hg:g'.all Ex.mE=true) (lg:g'.length=g.length) (le:e'.length=e.length) (lh:h'.length=h.length) (ld:d'.length=d.length) (lb:b'.length=b.length)
  (h1:k=6->nm t'=true) (h2:k≠6->t'=t) (hb:Sm.tO b'=Sm.tO b) (v:Sm.bp nm (.mk l k t g e h d b)=true):Sm.bp nm (.mk l' k t' g' e' h' d' b')=true:=by
 unfold Sm.bp at v |-;rw[cT]at v |-;refine⟨by rw[hl,hg];rfl,?_⟩;have v:=v.2;rw[lg,le,lh,ld,lb,hb];by_cases h6:k=6
 .have ht:=h1 h6;subst h6;simp at v |-;simp[v,ht]
 .rw[h2 h6];exact v
def De.EG{nm:Bz->Bool}{k:Int}{o:Bool}{t:Int}{n n':List Bz}{e e':List Ex}{f f':List Fo}{b b':List Sm}
  (hn:n'.all nm=true) (ln:n'.length=n.length) (le:e'.length=e.length) (lf:f'.length=f.length) (lb:b'.length=b.length) (hf:k=4->fi nm f []=true->fi nm f' []=true)
  (v:De.bp nm (.mk k o t n e f b)=true):De.bp nm (.mk k o t n' e' f' b')=true:=by
 unfold De.bp at v |-;rw[cT]at v |-;refine⟨hn,?_⟩;have v:=v.2;rw[ln,le,lf,lb];by_cases h4:k=4
 .have ht:=hf h4;subst h4;simp at v |-;simp[v,ht]
 .simp only[au h4]at v |-;exact v
def Ex.Ad{nm:Bz->Bool}{k o n m e:Int}{t:Bz}{a:List Ex}(h:Ex.bp nm (.mk k o n m e t a)=true)(ha:∀x,x∈a->(Pa.ex x).valid nm=true):(Pa.ex (.mk k o n m e t a)).valid nm=true:=
 Pa.gU.2 ⟨h,λq hq=>by simp only[Pa.kids,cY]at hq;obtain⟨x,hx,rfl⟩:=hq;exact ha x hx⟩
def Sm.Ad{nm:Bz->Bool}{l:List Bz}{k:Int}{t:Bz}{g e:List Ex}{h:List El}{d:List De}{b:List Sm}(v:Sm.bp nm (.mk l k t g e h d b)=true)
  (vg:∀x,x∈g->(Pa.ex x).valid nm=true) (ve:∀x,x∈e->(Pa.ex x).valid nm=true) (vh:∀x,x∈h->(Pa.el x).valid nm=true) (vd:∀x,x∈d->(Pa.de x).valid nm=true) (vb:∀x,x∈b->(Pa.st x).valid nm=true):(Pa.st (.mk l k t g e h d b)).valid nm=true:=
 Pa.gU.2 ⟨v,λq hq=>by
  simp only[Pa.kids,cU,cY]at hq;rcases hq with ⟨x,hx,rfl⟩|⟨x,hx,rfl⟩|⟨x,hx,rfl⟩|⟨x,hx,rfl⟩|⟨x,hx,rfl⟩
  .exact vg x hx
  .exact ve x hx
  .exact vh x hx
  .exact vd x hx
  .exact vb x hx⟩
def De.Ad{nm:Bz->Bool}{k:Int}{o:Bool}{t:Int}{n:List Bz}{e:List Ex}{f:List Fo}{b:List Sm}(v:De.bp nm (.mk k o t n e f b)=true)
  (ve:∀x,x∈e->(Pa.ex x).valid nm=true) (vb:∀x,x∈b->(Pa.st x).valid nm=true):(Pa.de (.mk k o t n e f b)).valid nm=true:=
 Pa.gU.2 ⟨v,λq hq=>by
  simp only[Pa.kids,cU,cY]at hq;rcases hq with ⟨x,hx,rfl⟩|⟨x,hx,rfl⟩
  .exact ve x hx
  .exact vb x hx⟩
def El.qU{nm:Bz->Bool}{e:El}(v:(Pa.el e).valid nm=true):∀x,x∈e.aw->(Pa.ex x).valid nm=true:=λx hx=>(Pa.gU.1 v).2 _ (by simp only[Pa.kids,cY];exact⟨x,hx,rfl⟩)
def El.Ad{nm:Bz->Bool}{e:El}{a:List Ex}(v:(Pa.el e).valid nm=true)(hl:a.length=e.aw.length)(ha:∀x,x∈a->(Pa.ex x).valid nm=true):(Pa.el ⟨e.kind,a⟩).valid nm=true:=
 Pa.gU.2 ⟨by
  have:=(Pa.gU.1 v).1;simp only[Pa.bp,El.bp]at this |-;rw[hl];exact this,λq hq=>by simp only[Pa.kids,cY]at hq;obtain⟨x,hx,rfl⟩:=hq;exact ha x hx⟩
def qeN{nm:Bz->Bool}{φ:Fo->Fo}{ψ:Bz->Bz}(hφ:∀x,(φ x).name=ψ x.name/\(φ x).value=x.value/\(φ x).spec=x.spec/\(φ x).type=x.type):∀(l:List Fo) (kC:List Bz),
  (∀x,x∈l->nm (ψ x.name)=true)->(∀x y,(x∈kC\/x∈l.map Fo.name)->(y∈kC\/y∈l.map Fo.name)->ψ x=ψ y->x=y)->fi nm l kC=true->fi nm (l.map φ) (kC.map ψ)=true
 |[],_,_,_,_=>rfl
 |x::l,kC,hn,hi,h=>by
  simp only[cQ,fi,cT,CB,List.any_eq_false,dT]at h |-;obtain⟨⟨h1,h2⟩,h3⟩:=h;obtain⟨p1,p2,p3,p4⟩:=hφ x;refine⟨⟨?_,?_⟩,?_⟩
  .unfold Fo.bp at h1 |-;rw[cT]at h1 |-;rw[p1,p2,p3,p4];exact⟨hn x sM,h1.2⟩
  .intro y hy;obtain⟨z,hz,rfl⟩:=cY.1 hy;rw[p1];exactλhe=>h2 z hz (hi z x.name (.inl hz) (.inr sM) he)
  .have:=qeN hφ l (kC++[x.name]) (λy hy=>hn y (by simp[hy])) (λa b ha hb=>hi a b (by simpa[or_assoc]using ha) (by simpa[or_assoc]using hb)) h3;rw[cJ]at this;rw[p1];exact this
set_option linter.unusedSectionVars false
section
variable {nm:Bz->Bool} {f bs:Nat->Bz} (h1:∀j k,f j=f k->bs j=bs k) (hf:∀k,nm (bs k)=true->nm (f k)=true)
include h1 hf
theorem Sz{sc:ai}(hb:oZ bs sc){x:Bz}(hx:nm x=true):nm (fQ f sc x)=true:=by
 unfold fQ
 cases h:sc.at x with
 |none=>exact hx
 |some k=>exact hf k (by rw[PO hb h];exact hx)
theorem qjx{sc:ai}(hb:oZ bs sc){l:List Bz}(hx:∀x,x∈l->nm x=true):(l.map (fQ f sc)).all nm=true:=by
 rw[fR];intro x h;obtain⟨y,hy,rfl⟩:=cY.1 h;exact Sz h1 hf hb (hx y hy)
theorem qvw{sc:ai}(hb:oZ bs sc){x y:Bz}(hx:(sc.at x).isSome=true)(hy:(sc.at y).isSome=true)(h:fQ f sc x=fQ f sc y):x=y:=by
 unfold fQ at h
 cases ha:sc.at x with
 |none=>rw[ha]at hx;cases hx
 |some j=>
  cases hk:sc.at y with
  |none=>rw[hk]at hy;cases hy
  |some k=>
   rw[ha,hk]at h;rw[<-PO hb ha,<-PO hb hk];exact h1 _ _ h
mutual
theorem Ex.BV{sc:ai}(hb:oZ bs sc):∀x:Ex,(Pa.ex x).valid nm=true->(Pa.ex (x.w f sc)).valid nm=true
 |.mk k o n m e t a,v=>by
  rw[Ex.w];refine Ex.Ad (Ex.EG (by rw[Ex.pO,bQ]) (λhn=>?_) (λhn=>au hn) (Pa.gU.1 v).1) (Ex.vQ hb a (Ex.Hu v));rw[ak hn];exact Sz h1 hf hb (Ex.EJ v hn)
theorem Ex.vQ{sc:ai}(hb:oZ bs sc):∀l:List Ex,(∀x,x∈l->(Pa.ex x).valid nm=true)->∀x,x∈Ex.wl f sc l->(Pa.ex x).valid nm=true
 |[],_,x,h=>by rw[Ex.wl]at h;cases h
 |y::l,v,x,h=>by
  rw[Ex.wl]at h;rcases dU.1 h with rfl| h
  .exact Ex.BV hb y (v y sM)
  .exact Ex.vQ hb l (λz hz=>v z (by simp[hz])) x h
end
theorem El.BV{sc:ai}(hb:oZ bs sc)(e:El)(v:(Pa.el e).valid nm=true):(Pa.el (e.w f sc)).valid nm=true:=
 El.Ad v (by rw[bQ]) (by rw[<-Ex.pO];exact Ex.vQ h1 hf hb e.aw (El.qU v))
omit h1 hf in
theorem Ex.qli{sc:ai}:∀l:List Ex,l.all Ex.mE=true->(Ex.wl f sc l).all Ex.mE=true
 |[],_=>rfl
 |x::l,h=>by
  simp only[Ak,cT,Ex.wl]at h |-;exact⟨by cases x;exact h.1,Ex.qli l h.2⟩
omit h1 hf in
theorem Sm.qla(s:Sm)(sc:ai)(n:Nat):(s.w f sc n).kind=s.kind:=by
 cases s;rw[Sm.w];split
 .rfl
 .split<;>rfl
omit h1 hf in
theorem Sm.qlh(l:List Sm)(sc:ai)(n:Nat):Sm.tO (Sm.wl f sc n l)=Sm.tO l:=by
 cases l with
 |nil=>rfl
 |cons x l=>rw[Sm.wl,Sm.tO,Sm.tO,Sm.qla]
omit h1 hf in
theorem Sm.qy2(l:List Sm)(sc:ai)(n:Nat):Sm.tO (Sm.w1 f sc n l)=Sm.tO l:=by
 cases l with
 |nil=>rfl
 |cons x l=>rw[Sm.w1,Sm.tO,Sm.tO,Sm.qla]
omit h1 hf in
theorem Sm.tgts{l:List Bz}{k:Int}{t:Bz}{g e:List Ex}{h:List El}{d:List De}{b:List Sm}(v:Sm.bp nm (.mk l k t g e h d b)=true):g.all Ex.mE=true:=by
 unfold Sm.bp at v;rw[cT,cT]at v;exact v.1.2
omit h1 hf in
theorem zM{α:Type}{P:α->Prop}:∀x,x∈([]:List α)->P x:=λx h=>by cases h
mutual
theorem Sm.BV:∀(s:Sm) (sc:ai) (n:Nat),oZ bs sc->mH bs n s.bn->(Pa.st s).valid nm=true->(Pa.st (s.w f sc n)).valid nm=true
 |.mk l k t gs e hh d b,sc,n,hb,ha,v=>by
  obtain⟨v7,v8,v9⟩:=Sm.EH v;have vd:=Sm.BQ v;have vb:=Sm.pN v;have vo:Sm.bp nm (.mk l k t gs e hh d b)=true:=(Pa.gU.1 v).1;have vl:=qjx h1 hf hb (Sm.Ti v);simp only[Sm.decls,Sm.body,Sm.labels]at vd vb vl;rw[Sm.bn]at ha;rw[Sm.w];by_cases h7:k=7
  .obtain⟨rfl,rfl,rfl⟩:=v7 h7;have h6:¬k=6:=oM;rw[ak h7]at ha |-;have hd:=ha.fst.snd;have wM:=ha.snd;rw[dx,De.uK,mZ,<-jU,<-mK _ n 0]at wM;rw[mZ,<-mK _ n 0]at hd;have hs:=hb.cons ha.fst.fst;exact Sm.Ad (Sm.EG vl rfl rfl rfl rfl (De.BZ _ _ _ _ _) (Sm.BZ _ _ _ _) (λh=>absurd h h6) (λ_=>rfl) (Sm.qlh _ _ _) vo) zM zM zM (De.vQ d _ _ _ hs hb hd vd) (Sm.vQ b _ _ hs wM vb)
  .rw[au h7]at ha |-;by_cases h8:k=8
   .obtain⟨rfl,rfl,rfl,rfl⟩:=v8 h8;have h6:¬k=6:=oM;rw[ak h8]at ha |-;have wM:=ha.snd;rw[mZ,<-mK _ n 0]at wM;exact Sm.Ad (Sm.EG vl rfl rfl rfl rfl rfl (Sm.BZ _ _ _ _) (λh=>absurd h h6) (λ_=>rfl) (Sm.qlh _ _ _) vo) zM zM zM zM (Sm.vQ b _ _ (hb.cons ha.fst) wM vb)
   .obtain rfl:=v9 h7 h8;rw[au h8]at ha |-;refine Sm.Ad (Sm.EG vl (Ex.qli gs (Sm.tgts vo)) (by rw[Ex.pO,bQ]) (by rw[Ex.pO,bQ]) (by rw[bQ]) rfl (Sm.ON _ _ _ _) (λh=>?_) (λh=>au h) (Sm.qy2 _ _ _) vo)
     (Ex.vQ h1 hf hb gs (Sm.JZ v)) (Ex.vQ h1 hf hb e (Sm.qU v)) (λx hx=>?_) zM (Sm.Z8 b _ _ hb ha vb)
    .rw[ak h];exact Sz h1 hf hb (Sm.EJ v h)
    .obtain⟨y,hy,rfl⟩:=cY.1 hx;exact El.BV h1 hf hb y (Sm.JY v y hy)
theorem De.BV:∀(s:De) (own sc:ai) (n:Nat),oZ bs own->oZ bs sc->mH bs n s.bn->(Pa.de s).valid nm=true->(Pa.de (s.w f own sc n)).valid nm=true
 |.mk k o t ns e fo b,own,sc,n,ho,hb,ha,v=>by
  obtain⟨v4,v5⟩:=De.EI v;have vb:=De.pN v;have vo:De.bp nm (.mk k o t ns e fo b)=true:=(Pa.gU.1 v).1;have vl:=qjx h1 hf ho (De.qk9 v);have vf:=De.qk8 v;simp only[De.body,De.names,De.aj]at vb vl vf;rw[De.bn]at ha;rw[De.w];by_cases h4:k=4
  .obtain rfl:=v4 h4;rw[ak h4]at ha |-;have wM:=ha.snd;rw[mZ,<-mK _ n 0]at wM;have hs:=ho.cons ha.fst;refine De.Ad (De.EG vl (by rw[bQ]) rfl (by rw[bQ]) (Sm.ON _ _ _ _) (λ_ hv=>?_) vo) zM (Sm.Z8 b _ _ hs wM vb);have:=qeN (φ:=Fo.w f (ar (fo.map Fo.name) n::own)) (ψ:=fQ f (ar (fo.map Fo.name) n::own)) (λx=>⟨rfl,rfl,rfl,rfl⟩) fo [] (λx hx=>Sz h1 hf hs (vf x hx)) (λx y hx hy he=>?_) hv
   .exact this
   .exact qvw h1 hf hs (qeM fo n own x (by simpa using hx)) (qeM fo n own y (by simpa using hy)) he
  .obtain⟨rfl,rfl⟩:=v5 h4;rw[au h4];refine De.Ad (De.EG vl (by rw[bQ]) (by rw[Ex.pO,bQ]) rfl rfl (λh=>absurd h h4) vo) (Ex.vQ h1 hf (by split<;>assumption) e (De.qU v)) zM
theorem De.vQ:∀(l:List De) (own sc:ai) (n:Nat),oZ bs own->oZ bs sc->mH bs n (De.dp l)->(∀x,x∈l->(Pa.de x).valid nm=true)->∀x,x∈De.wl f own sc n l->(Pa.de x).valid nm=true
 |[],_,_,_,_,_,_,_,x,h=>by rw[De.wl]at h;cases h
 |y::l,own,sc,n,ho,hb,ha,v,x,h=>by
  rw[De.dp]at ha;have h2:=ha.snd;rw[De.rT]at h2;rw[De.wl]at h;rcases dU.1 h with rfl| h
  .exact De.BV y own sc n ho hb ha.fst (v y sM)
  .exact De.vQ l own sc _ ho hb h2 (λz hz=>v z (by simp[hz])) x h
theorem Sm.vQ:∀(l:List Sm) (sc:ai) (n:Nat),oZ bs sc->mH bs n (Sm.dp l)->(∀x,x∈l->(Pa.st x).valid nm=true)->∀x,x∈Sm.wl f sc n l->(Pa.st x).valid nm=true
 |[],_,_,_,_,_,x,h=>by rw[Sm.wl]at h;cases h
 |y::l,sc,n,hb,ha,v,x,h=>by
  rw[Sm.dp]at ha;have h2:=ha.snd;rw[Sm.rT]at h2;rw[Sm.wl]at h;rcases dU.1 h with rfl| h
  .exact Sm.BV y sc n hb ha.fst (v y sM)
  .exact Sm.vQ l sc _ hb h2 (λz hz=>v z (by simp[hz])) x h
theorem Sm.Z8:∀(l:List Sm) (sc:ai) (n:Nat),oZ bs sc->mH bs n (Sm.jk l)->(∀x,x∈l->(Pa.st x).valid nm=true)->∀x,x∈Sm.w1 f sc n l->(Pa.st x).valid nm=true
 |[],_,_,_,_,_,x,h=>by rw[Sm.w1]at h;cases h
 |y::l,sc,n,hb,ha,v,x,h=>by
  rw[Sm.jk]at ha;have h2:=ha.snd;have h3:=ha.fst.snd;rw[dx,Sm.rT,mZ,<-jU,<-mK _ n 0]at h2;rw[mZ,<-mK _ n 0]at h3;have hs:=hb.cons (sc:=sc) ha.fst.fst;rw[Sm.w1]at h;rcases dU.1 h with rfl| h
  .exact Sm.BV y _ _ hs h3 (v y sM)
  .exact Sm.Z8 l sc _ hb h2 (λz hz=>v z (by simp[hz])) x h
end
end
end Go.Proofs.YtbifpocccfkhhaaGreatDoor

namespace Go.Proofs.YtbifpocccfkhhaaGreatDoor
open Go
structure Sr(r:Rp)(lk:Lk):Prop where
 f:r.fresh=[]
 m:∀x,mt r x=lk x
set_option linter.unusedSectionVars false
section
variable {r:Rp} {lk:Lk} {g:Nat->Bz} (hg:∀k,lk (g k)=none) (hr:Sr r lk) {nm:Bz->Bool}
include hg hr
theorem OE(sc:ai)(x:Bz):dX r sc x=x:=by unfold dX;cases sc.at x<;>simp[hr.f]
theorem qkO(sc:ai)(l:List Bz):l.map (dX r sc)=l:=by
 rw[rR λx _=>OE hg hr sc x];simp
theorem qyr(sc:ai)(l:List Fo):l.map (Fo.rw r sc)=l:=by
 rw[rR λx _=>(show Fo.rw r sc x=x by unfold Fo.rw;rw[OE hg hr])];simp
theorem qkP{sc:ai}{t:Bz}(hb:o9 lk sc t=false):qm r sc t=pJ lk sc t:=by
 unfold qm ql pJ;unfold o9 at hb
 cases hs:sc.at t with
 |some k=>simp only;exact OE hg hr sc t
 |none=>
  rw[hs]at hb;simp only[hr.m]at hb |-;unfold Bn at hb;unfold Et
  cases hy:lk t with
  |none=>simp only;exact OE hg hr sc t
  |some y=>
   rw[hy]at hb;simp only[decide_not,Bool.not_eq_false',dT]at hb;simp only[ak hb]
theorem qkQ(sc:ai)(t:Bz)(st:cd):(oh r sc t st).bad=(st.bad||o9 lk sc t):=by
 unfold oh ql oS o9
 cases hs:sc.at t with
 |some k=>simp only
 |none=>
  simp only[hr.m];unfold Bn
  cases hy:lk t with
  |none=>simp only
  |some y=>simp only[decide_not]
theorem qys(sc:ai)(t:Bz)(st:cd):(oS r sc t st).bad=st.bad:=by
 unfold oS;cases sc.at t<;>rfl
mutual
theorem Ex.Hi(sc:ai)(tg:Bool):∀x:Ex,(Pa.ex x).valid nm=true->(x.w g sc).gY lk tg=false->x.wr (eT lk) sc tg=x.rw r sc
 |.mk k o n m e t a,v,hb=>by
  have va:=Ex.Hu v;simp only[Ex.args]at va;have h1:=(Pa.gU.1 v).1;rw[Ex.w,Ex.gY,vS]at hb;have ih:=Ex.rH sc false a va hb.1;have hb:=hb.2
  have h2:Ex.wr (eT lk) sc tg (.mk k o n m e t a)=if Ex.named k=true then(if k=6 then xp lk sc (.mk k o n m e t (Ex.bh (eT lk) sc false a)) else .mk k o n m e (pJ lk sc t) (Ex.bh (eT lk) sc false a)) else .mk k o n m e t (Ex.bh (eT lk) sc false a):=by
   rw[Ex.wr];rfl
  rw[h2,ih,Ex.rw];by_cases h6:k=6
  .subst h6;simp[Pa.bp,Ex.bp]at h1;obtain⟨⟨⟨⟨_,rfl⟩,rfl⟩,rfl⟩,rfl,rfl⟩:=h1;have hn:Ex.named 6=true:=rfl;rw[ak hn,ak rfl,ak rfl,OE hg hr];unfold xp ql;simp only[Ex.text]
   cases hs:sc.at t with
   |some j=>rfl
   |none=>
    simp only[hr.m]
    cases hy:lk t with
    |none=>rfl
    |some y=>rfl
  .rw[au h6]at hb |-;rw[au h6];by_cases kn:k=7\/k=8
   .have hn:Ex.named k=true:=by unfold Ex.named;rcases kn with rfl|rfl<;>rfl
    rw[ak hn,hn,rO,JC hg]at hb;rw[ak hn,ak kn,qkP hg hr hb]
   .have hn:Ex.named k=false:=by unfold Ex.named;simp;omega
    rw[au kn,hn];rfl
theorem Ex.rH(sc:ai)(tg:Bool):∀l:List Ex,(∀x,x∈l->(Pa.ex x).valid nm=true)->Ex.cP lk tg (Ex.wl g sc l)=false->Ex.bh (eT lk) sc tg l=Ex.b9 r sc l
 |[],_,_=>rfl
 |x::l,v,hb=>by
  rw[Ex.wl,Ex.cP,vS]at hb;rw[Ex.bh,Ex.b9,Ex.Hi sc tg x (v x sM) hb.1,Ex.rH sc tg l (λy hy=>v y (by simp[hy])) hb.2]
end
theorem El.rH(sc:ai):∀l:List El,(∀x,x∈l->(Pa.el x).valid nm=true)->El.cP lk (l.map (El.w g sc))=false->l.map (El.wr (eT lk) sc)=l.map (El.rw r sc)
 |[],_,_=>rfl
 |x::l,v,hb=>by
  have hx:(El.w g sc x).aw=Ex.wl g sc x.aw:=by unfold El.w;rw[Ex.pO]
  rw[cQ,El.cP,vS,hx]at hb;rw[cQ,cQ,El.rH sc l (λy hy=>v y (by simp[hy])) hb.2];congr 1;unfold El.wr El.rw;rw[Ex.rH hg hr sc false x.aw (El.qU (v x sM)) hb.1]
mutual
theorem Sm.Hi:∀(s:Sm) (sc:ai) (n:Nat),(Pa.st s).valid nm=true->(s.w g sc n).gY lk=false->s.wr (eT lk) sc n=s.rw r sc n
 |.mk l k t gs e hh d b,sc,n,v,hb=>by
  obtain⟨v7,v8,v9⟩:=Sm.EH v;have vd:=Sm.BQ v;have vb:=Sm.pN v;simp only[Sm.decls,Sm.body]at vd vb;rw[Sm.w]at hb;rw[Sm.wr,Sm.rw,qjz YY,qkO hg hr];by_cases h7:k=7
  .obtain⟨rfl,rfl,rfl⟩:=v7 h7;rw[ak h7,Sm.gY]at hb;simp only[vS]at hb;rw[ak h7,ak h7,De.rH d _ _ _ vd hb.1.1.2,Sm.rH b _ _ vb hb.1.2];rfl
  .by_cases h8:k=8
   .obtain⟨rfl,rfl,rfl,rfl⟩:=v8 h8;rw[au h7,ak h8,Sm.gY]at hb;simp only[vS]at hb;rw[au h7,au h7,ak h8,ak h8,Sm.rH b _ _ vb hb.1.2];rfl
   .obtain rfl:=v9 h7 h8;rw[au h7,au h8,Sm.gY]at hb;simp only[vS]at hb;obtain⟨⟨⟨⟨⟨b1,b2⟩,b3⟩,_⟩,b5⟩,b6⟩:=hb;rw[au h7,au h7,au h8,au h8,Ex.rH hg hr sc true gs (Sm.JZ v) b1,Ex.rH hg hr sc false e (Sm.qU v) b2,El.rH hg hr sc hh (Sm.JY v) b3,Sm.Zb b sc n vb b5,qvU];by_cases h6:k=6
    .rw[ak h6,pf h6,rO,JC hg]at b6;rw[ak h6,ak h6,qkP hg hr b6]
    .rw[au h6,au h6]
theorem De.Hi:∀(s:De) (own sc:ai) (n:Nat),(Pa.de s).valid nm=true->(s.w g own sc n).gY lk=false->s.wr (eT lk) own sc n=s.rw r own sc n
 |.mk k o t ns e fo b,own,sc,n,v,hb=>by
  obtain⟨v4,v5⟩:=De.EI v;have vb:=De.pN v;simp only[De.body]at vb;rw[De.w]at hb;rw[De.wr,De.rw,qjz YY,qkO hg hr];by_cases h4:k=4
  .obtain rfl:=v4 h4;rw[ak h4,De.gY,vS]at hb;rw[ak h4,ak h4,Fo.qzt YY,qyr hg hr,Sm.Zb b _ _ vb hb.2];rfl
  .rw[au h4,De.gY,vS]at hb;rw[au h4,au h4,Ex.rH hg hr _ false e (De.qU v) hb.1]
theorem De.rH:∀(l:List De) (own sc:ai) (n:Nat),(∀x,x∈l->(Pa.de x).valid nm=true)->De.cP lk (De.wl g own sc n l)=false->De.bh (eT lk) own sc n l=De.b9 r own sc n l
 |[],_,_,_,_,_=>rfl
 |x::l,own,sc,n,v,hb=>by
  rw[De.wl,De.cP,vS]at hb;rw[De.bh,De.b9,De.Hi x own sc n (v x sM) hb.1,De.rH l own sc _ (λy hy=>v y (by simp[hy])) hb.2]
theorem Sm.rH:∀(l:List Sm) (sc:ai) (n:Nat),(∀x,x∈l->(Pa.st x).valid nm=true)->Sm.cP lk (Sm.wl g sc n l)=false->Sm.bh (eT lk) sc n l=Sm.b9 r sc n l
 |[],_,_,_,_=>rfl
 |x::l,sc,n,v,hb=>by
  rw[Sm.wl,Sm.cP,vS]at hb;rw[Sm.bh,Sm.b9,Sm.Hi x sc n (v x sM) hb.1,Sm.rH l sc _ (λy hy=>v y (by simp[hy])) hb.2]
theorem Sm.Zb:∀(l:List Sm) (sc:ai) (n:Nat),(∀x,x∈l->(Pa.st x).valid nm=true)->Sm.cP lk (Sm.w1 g sc n l)=false->Sm.gV (eT lk) sc n l=Sm.jR r sc n l
 |[],_,_,_,_=>rfl
 |x::l,sc,n,v,hb=>by
  rw[Sm.w1,Sm.cP,vS]at hb;rw[Sm.gV,Sm.jR,Sm.Hi x _ _ (v x sM) hb.1,Sm.Zb l sc _ (λy hy=>v y (by simp[hy])) hb.2]
end
mutual
theorem Ex.Es(sc:ai):∀(x:Ex) (st:cd),(Pa.ex x).valid nm=true->(x.rs r sc st).bad=(st.bad||(x.w g sc).gY lk false)
 |.mk k o n m e t a,st,v=>by
  have va:=Ex.Hu v;simp only[Ex.args]at va;have h1:=(Pa.gU.1 v).1;rw[Ex.rs,Ex.w,Ex.gY];by_cases h6:k=6
  .subst h6;simp[Pa.bp,Ex.bp]at h1;obtain⟨⟨⟨⟨_,rfl⟩,rfl⟩,rfl⟩,rfl,rfl⟩:=h1;rw[ak rfl,ak rfl,qys hg hr,Ex.wl,Ex.cP];have:∀u,BI lk false u=false:=λu=>by unfold BI;cases lk u<;>simp
   rw[this];simp
  .rw[au h6,au h6,Ex.sQ sc a _ va];by_cases kn:k=7\/k=8
   .have hn:Ex.named k=true:=by unfold Ex.named;rcases kn with rfl|rfl<;>rfl
    rw[ak kn,qkQ hg hr,hn,ak rfl,JC hg,rO,nh,Bool.or_comm (o9 lk sc t)]
   .have hn:Ex.named k=false:=by unfold Ex.named;simp;omega
    rw[au kn,hn,Kq,ni]
theorem Ex.sQ(sc:ai):∀(l:List Ex) (st:cd),(∀x,x∈l->(Pa.ex x).valid nm=true)->(Ex.bC r sc st l).bad=(st.bad||Ex.cP lk false (Ex.wl g sc l))
 |[],st,_=>by rw[Ex.bC,Ex.wl,Ex.cP,ni]
 |x::l,st,v=>by
  rw[Ex.bC,Ex.sQ sc l _ λy hy=>v y (by simp[hy]),Ex.Es sc x st (v x sM),Ex.wl,Ex.cP,nh]
end
theorem Ex.qvW(sc:ai)(x:Ex)(v:(Pa.ex x).valid nm=true)(ht:x.mE=true):
  ((x.w g sc).gY lk false||(decide ((x.rw r sc).kind≠6)&&decide ((x.rw r sc).kind≠7)))=(x.w g sc).gY lk true:=by
 cases x with
 |mk k o n m e t a=>
  have h1:=(Pa.gU.1 v).1;rw[Ex.w,Ex.gY,Ex.gY,Ex.rw];by_cases h6:k=6
  .subst h6;have hn:Ex.named 6=true:=rfl;rw[ak rfl,ak rfl,ak rfl,ak hn,ZV hg,ZV hg];unfold ql xy
   cases hs:sc.at t with
   |some j=>simp[Ex.kind]
   |none=>
    simp only[hr.m];unfold BI
    cases hy:lk t with
    |none=>simp[Ex.kind]
    |some y=>simp
  .have h7:k=7:=by
    have ht:k=6\/k=7:=of_decide_eq_true ht;exact ht.resolve_left h6
   subst h7;simp[Ex.kind]
theorem Ex.qjZ(sc:ai):∀(l:List Ex) (st:cd),(∀x,x∈l->(Pa.ex x).valid nm=true)->l.all Ex.mE=true->((Ex.bC r sc st l).bad||qo (Ex.b9 r sc l))=(st.bad||Ex.cP lk true (Ex.wl g sc l))
 |[],st,_,_=>by rw[Ex.bC,Ex.wl,Ex.cP,Ex.b9];rfl
 |x::l,st,v,ht=>by
  rw[Ak,cT]at ht;have h1:=Ex.qjZ sc l (Ex.rs r sc st x) (λy hy=>v y (by simp[hy])) ht.2;have h2:=Ex.Es hg hr sc x st (v x sM);have h3:=Ex.qvW hg hr sc x (v x sM) ht.1
  have h4:qo (Ex.b9 r sc (x::l))=((decide ((x.rw r sc).kind≠6)&&decide ((x.rw r sc).kind≠7))||qo (Ex.b9 r sc l)):=by
   rw[Ex.b9];unfold qo;rw[List.any_cons]
  rw[Ex.bC,h4,Ex.wl,Ex.cP,<-h3];generalize (decide ((x.rw r sc).kind≠6)&&decide ((x.rw r sc).kind≠7))=c at *;have e:((Ex.bC r sc (Ex.rs r sc st x) l).bad||(c||qo (Ex.b9 r sc l)))=(((Ex.bC r sc (Ex.rs r sc st x) l).bad||qo (Ex.b9 r sc l))||c):=by ac_rfl
  rw[e,h1,h2];ac_rfl
theorem El.sQ(sc:ai):∀(l:List El) (st:cd),(∀x,x∈l->(Pa.el x).valid nm=true)->(El.bC r sc st l).bad=(st.bad||El.cP lk (l.map (El.w g sc)))
 |[],st,_=>by rw[nK,El.cP,ni];rfl
 |x::l,st,v=>by
  have hx:(El.w g sc x).aw=Ex.wl g sc x.aw:=by unfold El.w;rw[Ex.pO]
  have h1:=El.sQ sc l (Ex.bC r sc st x.aw) λy hy=>v y (by simp[hy])
  show(El.bC r sc (Ex.bC r sc st x.aw) l).bad=_;rw[h1,Ex.sQ hg hr sc x.aw st (El.qU (v x sM)),cQ,El.cP,hx,nh]
mutual
theorem Sm.Es:∀(s:Sm) (sc:ai) (n:Nat) (st:cd),(Pa.st s).valid nm=true->(s.rs r sc n st).bad=(st.bad||(s.w g sc n).gY lk)
 |.mk l k t gs e hh d b,sc,n,st,v=>by
  obtain⟨v7,v8,v9⟩:=Sm.EH v;have vd:=Sm.BQ v;have vb:=Sm.pN v;have vo:Sm.bp nm (.mk l k t gs e hh d b)=true:=(Pa.gU.1 v).1;simp only[Sm.decls,Sm.body]at vd vb;rw[Sm.rs,Sm.w];by_cases h7:k=7
  .obtain⟨rfl,rfl,rfl⟩:=v7 h7;have h6:¬k=6:=oM;rw[ak h7,ak h7,Sm.gY,Sm.sQ b _ _ _ vb,De.sQ d _ _ _ _ vd,e9 h6];simp[Ex.cP,El.cP,nh]
  .rw[au h7,au h7];by_cases h8:k=8
   .obtain⟨rfl,rfl,rfl,rfl⟩:=v8 h8;have h6:¬k=6:=oM;rw[ak h8,ak h8,Sm.gY,Sm.sQ b _ _ _ vb,e9 h6];simp[Ex.cP,El.cP,De.cP]
   .have DL:∀bc,(yO r sc bc gs).bad=(bc.bad||Ex.cP lk true (Ex.wl g sc gs)):=λbc=>Ex.qjZ hg hr sc gs bc (Sm.JZ v) (Sm.tgts vo)
    rw[au h8,au h8,Sm.gY,Sm.Za b _ _ _ vb,Ex.sQ hg hr sc e _ (Sm.qU v),El.sQ hg hr sc hh _ (Sm.JY v),DL];by_cases h6:k=6
    .rw[ak h6,ak h6,pf h6,qkQ hg hr,JC hg];simp only[De.cP,ni,rO];ac_rfl
    .rw[au h6,au h6,e9 h6];simp only[De.cP,ni,Kq];ac_rfl
theorem De.Es:∀(s:De) (own sc:ai) (n:Nat) (st:cd),(Pa.de s).valid nm=true->(s.rs r own sc n st).bad=(st.bad||(s.w g own sc n).gY lk)
 |.mk k o t ns e fo b,own,sc,n,st,v=>by
  obtain⟨v4,v5⟩:=De.EI v;have vb:=De.pN v;simp only[De.body]at vb;rw[De.rs,De.w];by_cases h4:k=4
  .obtain rfl:=v4 h4;rw[ak h4,ak h4,De.gY,Sm.Za b _ _ _ vb];simp[Ex.cP,Ex.bC]
  .rw[au h4,au h4,De.gY,Ex.sQ hg hr _ e st (De.qU v)];simp[Sm.cP]
theorem De.sQ:∀(l:List De) (own sc:ai) (n:Nat) (st:cd),(∀x,x∈l->(Pa.de x).valid nm=true)->(De.bC r own sc n st l).bad=(st.bad||De.cP lk (De.wl g own sc n l))
 |[],_,_,_,st,_=>by rw[De.bC,De.wl,De.cP,ni]
 |x::l,own,sc,n,st,v=>by
  rw[De.bC,De.sQ l own sc _ _ λy hy=>v y (by simp[hy]),De.Es x own sc n st (v x sM),De.wl,De.cP,nh]
theorem Sm.sQ:∀(l:List Sm) (sc:ai) (n:Nat) (st:cd),(∀x,x∈l->(Pa.st x).valid nm=true)->(Sm.bC r sc n st l).bad=(st.bad||Sm.cP lk (Sm.wl g sc n l))
 |[],_,_,st,_=>by rw[Sm.bC,Sm.wl,Sm.cP,ni]
 |x::l,sc,n,st,v=>by
  rw[Sm.bC,Sm.sQ l sc _ _ λy hy=>v y (by simp[hy]),Sm.Es x sc n st (v x sM),Sm.wl,Sm.cP,nh]
theorem Sm.Za:∀(l:List Sm) (sc:ai) (n:Nat) (st:cd),(∀x,x∈l->(Pa.st x).valid nm=true)->(Sm.mb r sc n st l).bad=(st.bad||Sm.cP lk (Sm.w1 g sc n l))
 |[],_,_,st,_=>by rw[Sm.mb,Sm.w1,Sm.cP,ni]
 |x::l,sc,n,st,v=>by
  rw[Sm.mb,Sm.Za l sc _ _ λy hy=>v y (by simp[hy]),Sm.Es x _ _ st (v x sM),Sm.w1,Sm.cP,nh]
end
end
section
variable {u:Bz}
end
def Sm.qeF{lk:Lk}{g:Nat->Bz}(hg:∀k,lk (g k)=none){nm:Bz->Bool}(s:Sm)(v:(Pa.st s).valid nm=true):kM (s.ou (eT lk) (false:Bool))=(s.whole g).gY lk:=by
 have h1:kM (enters (eT lk) (false:Bool) (ar s.labels 0))=false:=On (lk:=lk) (ar s.labels 0) (false:Bool);have h2:=Sm.Hh hg s [ar s.labels 0] (ar s.labels 0).length (enters (eT lk) (false:Bool) (ar s.labels 0)) v;rw[h1,Kr]at h2;exact h2
section
variable {s:Sm} {l:List Bz} {es:List Ae} {g:Nat->Bz} (va:(Pa.st s).valid aH=true) (hl:s.fu.length+Sm.bH [s]+(rJ l es).length<=899) (hg:∀k,eS es (g k)=none)
include va hl hg
end
end Go.Proofs.YtbifpocccfkhhaaGreatDoor


namespace Go.Proofs.YtbifpocccfkhhaaGreatDoor
open Go
def sE(s:Sm)(l:List Bz)(xs:List Ex):Int:=if(Pa.st s).err aH≠0 then(Pa.st s).err aH else if vA l xs≠0 then vA l xs else qS s l (l.zip xs)
def sV(s:Sm)(l:List Bz)(xs:List Ex):V:=if sE s l xs=0 then(tW s l (l.zip xs)).v else bL
end Go.Proofs.YtbifpocccfkhhaaGreatDoor

namespace Go.Proofs.YtbifpocccfkhhaaGreatDoor
open Go Go.Proofs.Tryz
set_option maxHeartbeats 0
set_option maxRecDepth 100000
noncomputable def C38:=aW func38
noncomputable def C39:=aW func39
noncomputable def C41:=aW func41
def Gs.YN{w:Nat}{F:Np}{xs:List Bz}{v:V}{S:St}(h:Gs w F xs v S)(U:St)(hk:bz S U):Rd v xs U:=by
 rcases h with ⟨rfl,rfl⟩|⟨l,wr,h1,h2,rfl,h4,h5⟩
 .exact Rd.sl true [] U
 .exact Rd.arr (hk.at h4 id) h5
def qx2(s:Sm)(bF:(Pa.st s).size<=4000)(hn:Sm.bH [s]<=4000)(v:(Pa.st s).valid aH=true)(S:St):
  aA prog 38 [s.v] S (λr U=>Gr 1 S.length (s.fu.map .str) r U/\bz S U):=by
 refine aA.ib C38 ?_;obtain⟨S1,bB⟩:=eX (α:=St) (S++[.arr [s.v] 8 1,vN sN]);have b0:S1[S.length]?=aJ [s.v] 8:=by rw[bB];simp
 have b2:S1[S.length+1]?=some (vN sN):=by rw[bB,cx oM];simp
 have kS:bz S S1:=by rw[bB];exact(Kp.refl _ _).push _
 have Bi:ab S1 (ag S.length) (some 8)=some s.v:=by simp[ab,b0]
 have k1:Rk r0 true true (S.length+1) sN [] iY (λ_=>False) (λ_=>False) S1:=Rk.start b2 (.inl ⟨rfl,rfl⟩) (λ_ h=>h.elim) id;simp[C38,aL,bR,bP];rw[<-bB];simp[Bi];refine bE (OB r0 Sv true true (S.length+1) _ s bF iY _ _ S1 k1 oM (by show 0+_<=_;omega)) ?_;rintro r U ⟨rfl,F1,D1,k2,s2⟩
 have nZ:bz S U:=⟨js kS.len s2.k.len,λl hl hn=>by
  rw[s2.k.get l (by have:=kS.len;omega) (by rintro(hh|hh);omega;exact hh)];exact kS.get l hl hn⟩
 obtain⟨vb,vf,w1,w2,w3,w4⟩:=k2.wx;have GK:ab U (eD (S.length+1) 1) none=some vf:=by unfold gn at w1;simp[ab,w1]
 have hlen:=Sm.BA r0 s [ar s.labels 0] (ar s.labels 0).length iY;have h0:iY.free.length=0:=rfl;have q:=qkD vf _ oM U w3.YN;rw[show(s.rs r0 [ar s.labels 0] (ar s.labels 0).length iY).free.foldl j8 []=s.fu from s.qjB v]at q;simp[GK,dK];refine bE q ?_;rintro r U2 ⟨g3,k3⟩;simp;exact bu rfl ⟨g3.less nZ.len,nZ.trans k3⟩
def qx3(s:Sm)(bF:(Pa.st s).size<=4000)(hn:Sm.bH [s]<=4000)(S:St):
  aA prog 39 [s.v] S (λr U=>r=ah (s.binds.map .str)/\bz S U):=by
 refine aA.ib C39 ?_;obtain⟨S1,bB⟩:=eX (α:=St) (S++[.arr [s.v] 8 1,vN sN]);have b0:S1[S.length]?=aJ [s.v] 8:=by rw[bB];simp
 have b2:S1[S.length+1]?=some (vN sN):=by rw[bB,cx oM];simp
 have kS:bz S S1:=by rw[bB];exact(Kp.refl _ _).push _
 have Bi:ab S1 (ag S.length) (some 8)=some s.v:=by simp[ab,b0]
 have k1:Rk r0 true true (S.length+1) sN [] iY (λ_=>False) (λ_=>False) S1:=Rk.start b2 (.inl ⟨rfl,rfl⟩) (λ_ h=>h.elim) id;simp[C39,aL,bR,bP];rw[<-bB];simp[Bi];refine bE (OB r0 Sv true true (S.length+1) _ s bF iY _ _ S1 k1 oM (by show 0+_<=_;omega)) ?_;rintro r U ⟨rfl,F1,D1,k2,s2⟩
 have nZ:bz S U:=⟨js kS.len s2.k.len,λl hl hn=>by
  rw[s2.k.get l (by have:=kS.len;omega) (by rintro(hh|hh);omega;exact hh)];exact kS.get l hl hn⟩
 obtain⟨vb,vf,w1,w2,w3,w4⟩:=k2.wx;have GK:ab U (ag (S.length+1)) none=some vb:=by unfold gn at w1;simp[ab,w1]
 have hlen:=s.wz;have q:=qkC vb s.bounds oM U (Gs.YN w2);rw[s.qvo]at q;simp[GK,dK];refine bE q ?_;rintro r U2 ⟨rfl,k3⟩;simp;exact bu rfl ⟨rfl,nZ.trans k3⟩
section
variable {nm:Bz->Bool} (r:Rp) (z:Bz)
mutual
theorem Ex.rs0:∀(x:Ex) (st:cd),(Pa.ex x).valid nm=true->(z∈(Ex.rs r [] st x).free↔z∈st.free\/z∈Ex.gm x)
 |.mk k o n m e t a,st,v=>by
  have va:=Ex.Hu v;simp only[Ex.args]at va;have h1:=(Pa.gU.1 v).1;have hu:(oS r [] t st).free=st.free++[t]:=rfl;have h2:(oh r [] t st).free=st.free++[t]:=rfl;rw[Ex.rs,Ex.gm,cU];by_cases h6:k=6
  .subst h6;have hn:Ex.named 6=true:=rfl;simp[Pa.bp,Ex.bp]at h1;obtain⟨⟨⟨⟨_,rfl⟩,rfl⟩,rfl⟩,rfl,rfl⟩:=h1;rw[ak rfl,hu,hn,ak rfl];simp[Ex.cL]
  .rw[au h6,Ex.qjI a _ va];by_cases kn:k=7\/k=8
   .have hn:Ex.named k=true:=by unfold Ex.named;rcases kn with rfl|rfl<;>rfl
    rw[ak kn,hn,ak rfl,h2,cU,qhs]
   .have hn:Ex.named k=false:=by unfold Ex.named;simp;omega
    rw[au kn,hn];simp
theorem Ex.qjI:∀(l:List Ex) (st:cd),(∀x,x∈l->(Pa.ex x).valid nm=true)->(z∈(Ex.bC r [] st l).free↔z∈st.free\/z∈Ex.cL l)
 |[],st,_=>by simp[Ex.bC,Ex.cL]
 |x::l,st,v=>by
  rw[Ex.bC,Ex.cL,Ex.qjI l _ λy hy=>v y (by simp[hy]),Ex.rs0 x st (v x sM),cU,or_assoc]
end
end
def Ex.names(x:Ex):List Bz:=zY ((Ex.cL [x]).foldl eo [])
def Ex.qtD(x:Ex)(v:(Pa.ex x).valid aH=true):(x.rs r0 [] iY).free.foldl j8 []=x.names:=
 Zm (Bh uF) λz=>by
  rw[qi];refine(Ex.rs0 r0 z x iY v).trans ?_;simp[iY,Ex.cL]
def qx5(x:Ex)(bF:(Pa.ex x).size<=4000)(v:(Pa.ex x).valid aH=true)(S:St):
  aA prog 41 [x.v] S (λr U=>r=ah (x.names.map .str)/\bz S U):=by
 refine aA.ib C41 ?_;obtain⟨S1,bB⟩:=eX (α:=St) (S++[.arr [x.v] 7 1,vN sN]);have b0:S1[S.length]?=aJ [x.v] 7:=by rw[bB];simp
 have b2:S1[S.length+1]?=some (vN sN):=by rw[bB,cx oM];simp
 have kS:bz S S1:=by rw[bB];exact(Kp.refl _ _).push _
 have Bi:ab S1 (ag S.length) (some 7)=some x.v:=by simp[ab,b0]
 have k1:Rk r0 true true (S.length+1) sN [] iY (λ_=>False) (λ_=>False) S1:=Rk.start b2 (.inl ⟨rfl,rfl⟩) (λ_ h=>h.elim) id;simp[C41,aL,bR,bP];rw[<-bB];simp[Bi];have p:=ZE r0 Sv true true (S.length+1) sN 4000 x bF cz [] iY _ _ S1 true [] k1 (λ_ h=>by cases h) (by show 0<=_;omega) (by show 0+_<=_;omega);simp only[ai.flat,nK]at p;refine bE p ?_;rintro r U ⟨rfl,F1,D1,k2,s2⟩
 have nZ:bz S U:=⟨js kS.len s2.k.len,λl hl hn=>by
  rw[s2.k.get l (by have:=kS.len;omega) (by rintro(hh|hh);omega;exact hh)];exact kS.get l hl hn⟩
 obtain⟨vb,vf,w1,w2,w3,w4⟩:=k2.wx;have GK:ab U (eD (S.length+1) 1) none=some vf:=by unfold gn at w1;simp[ab,w1]
 have hlen:=Ex.BA r0 [] x iY;have h0:iY.free.length=0:=rfl;have q:=qkC vf _ oM U w3.YN;rw[x.qtD v]at q;simp[GK,dK];refine bE q ?_;rintro r U2 ⟨rfl,k3⟩;simp;exact bu rfl ⟨rfl,nZ.trans k3⟩
def Ex.Jy(x:Ex):x.names.length<=(Pa.ex x).size:=by
 unfold Ex.names;rw[Zl];have h1:=Gy (l:=Ex.cL [x]) (ks:=[]);have h2:=Ex.R1 x;simp only[Ex.cL,pR,qy]at h1 |-;omega
def HH(es:List Ae):Prop:=∀e,e∈es->aH e.1=true/\(Pa.ex e.2).valid aH=true
def HH.lk{es:List Ae}(h:HH es)(k:Nat):eS es (Bo k)=none:=by
 cases hl:eS es (Bo k) with
 |none=>rfl
 |some y=>
  have:=(h _ (Js hl)).1;rw[Yw]at this;cases this
def Sm.qtF(t:Sm):Sm.bH [t]<=(Pa.st t).size:=by
 have h2:=Sm.RS [t];simp at h2;omega
def ZI{z:V}(z8:z.size=8/\z.cells.all V.flat=true/\V.part z 0 (some 8)=some z)(U:St):
 aI (U++[.arr [zS] 8 1]) (ag U.length) 8 z=some (U++[.arr [z] 8 1]):=by simp[aI,aU,z8]
def ldZ{z:V}(z8:z.size=8/\z.cells.all V.flat=true/\V.part z 0 (some 8)=some z){U W:St}(k:bz (U++[.arr [z] 8 1]) W):ab W (ag U.length) (some 8)=some z:=by
 have c:=k.at (l:=U.length) (o:=.arr [z] 8 1) sM id;simp[ab,c,z8]
end Go.Proofs.YtbifpocccfkhhaaGreatDoor
end
