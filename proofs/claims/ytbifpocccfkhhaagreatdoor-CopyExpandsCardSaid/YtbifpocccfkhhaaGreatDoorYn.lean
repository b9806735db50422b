/- CopyExpands returns true for every declaration and every list of expressions, if memory holds them. -/
import Derived.Test.YtbifpocccfkhhaaGreatDoorYm
set_option linter.all false
noncomputable section
namespace Go.Proofs.YtbifpocccfkhhaaGreatDoor
open Go Go.Proofs.Tryz
def J28(S:St)(d:De)(xs:List Ex)(b:Bool)(tk:List Bz)(P:Nat)(lv:V)(j:Nat)(e:ae)(Y:St):Prop:=
 ∃(i:Nat) (tl:List Bz) (tv ov dv bv:V) (ro rd rb:List V),j=d.aj.length-i/\i<=d.aj.length/\L28 S d xs b P i (jC tk ((d.aj.zip xs).take i)) tl lv tv ov dv bv ro rd rb e Y/\
  e=[(15,af i),(14,ag P),(13,ov),(10,tv),(7,lv),(4,ag (S.length+1)),(2,ag S.length),(1,.sl b (xs.map Ex.v))]
def qzF(tk:List Bz)(l:List (Fo×Ex)):(jC tk l).es.length=l.length:=by
 have:=mn List.length (qak tk l);simpa using this
def qza(d:De)(hd:d.ok)(b:Bool)(xs:List Ex)(ho:∀x,x∈xs->x.ok)(hl:xs.length<=9)(hz:bk (xs.map Pa.ex)<=60)(bF:∀s,s∈d.body->(Pa.st s).size<150/\Sm.bH [s]<150)(h0:ja d xs=0)(S:St)(R:V->St->Prop)
  (a1 a2 a3 a4 a5 a6 a7 a8 a9 mh mi a12 we wh wj a16 a17 t:C') (hc:vU.c.body=.seq a1 (.seq a2 (.seq a3 (.seq a4 (.seq a5 (.seq a6 (.seq a7 (.seq a8 (.seq a9 (.seq mh (.seq mi (.seq a12 (.seq we (.seq wh (.seq wj (.seq a16 (.seq a17 t)))))))))))))))))
  (good:∀e X,EW S d xs b d.aj.length (db d xs) e X->WP prog t (eN [.cell 4 (some 8),.t 5] S.length R) e X) {e:ae} {X:St} (h:EW S d xs b 0 (jC (qD d xs) []) e X):
  WP prog (.seq a17 t) (eN [.cell 4 (some 8),.t 5] S.length R) e X:=by
 simp only[vU,fW,C'.seq.injEq]at hc;obtain⟨-,-,-,-,-,-,-,-,-,-,-,-,-,-,-,-,rfl,rfl⟩:=hc;obtain⟨f1,f2,f3,f4,f5,f6,f7,f8,f9⟩:=zi h0;obtain⟨P,tl,lv,tv,ov,dv,bv,ro,rd,rb,h⟩:=h;obtain⟨tk,vm⟩:=eX (qD d xs);have pF:=VE h0 hl hz bF;rw[<-vm]at pF h;have qd:d.aj.length<=9:=oM;refine cS (EW S d xs b d.aj.length (db d xs)) ?_ good;simp;refine eA (EW S d xs b d.aj.length (db d xs)) ?_ λ_ _ h=>by simp only[lS];exact h
 refine cE (J28 S d xs b tk P lv) d.aj.length _ ?_ ⟨0,tl,tv,ov,dv,bv,ro,rd,rb,sM,oM,⟨h.f.to (Kp.refl (λ_=>False) _) (λ_ h=>h.elim) (by rintro t (rfl|rfl|rfl)<;>simp[h.f.g1,h.f.g2,h.f.g4]),h.p,h.hP,h.gl,h.gt,h.go,h.gd,h.gb,h.dt,h.dd,h.wo,h.wd,h.wb,h.mt,h.lt,sM,sM,sM,sM⟩,rfl⟩ ?_
 .repeat' first|exact ae.gZ _|refine ae.fp (by simp[h.f.g1,h.f.g2,h.f.g4,h.g7,h.g10,h.g13,h.g14]) ?_
 clear h e X tl tv ov dv bv ro rd rb;rintro j e Y ⟨i,tl,tv,ov,dv,bv,ro,rd,rb,rfl,hi,h,rfl⟩;have kF:=h.f.k.at (l:=S.length) (o:=.arr [d.v] 7 1) sM id;by_cases aB:i<d.aj.length
 case neg=>
  have:i=d.aj.length:=oM;subst this;rw[mJ (by simp[f3]),vm]at h;simp[ab,kF];exact⟨P,tl,lv,tv,ov,dv,bv,ro,rd,rb,h.f.to (Kp.refl (λ_=>False) _) (λ_ h=>h.elim) (by rintro t (rfl|rfl|rfl)<;>simp),h.p,h.hP,h.gl,h.gt,h.go,h.gd,h.gb,h.dt,h.dd,h.wo,h.wd,h.wb,h.mt,h.lt,sM,sM,sM,sM⟩
 have Gh:i<xs.length:=oM;obtain⟨st,bg⟩:=eX (jC tk ((d.aj.zip xs).take i))
 have wZ:jC tk ((d.aj.zip xs).take (i+1))=jD st (d.aj[i],xs[i]):=by
  rw[dN,bX (by simp;omega),iP,qls,bg];simp
 have pz:st.es.length=i:=by rw[bg,qzF];simp;omega
 have Re:st.tk.length<=899:=by
  have:=(EM tk ((d.aj.zip xs).take i)).1;rw[<-bg]at this;simp at this;omega
 rw[<-bg]at h;obtain⟨f,hf⟩:=eX (d.aj[i]);obtain⟨x,yp⟩:=eX (xs[i]);have qfh:xs.drop i=x::xs.drop (i+1):=by rw[xE Gh,yp]
 have hn:V.fZ (.agg [.str ⟨⟨[]⟩⟩,.bool false,z0,z0]) 0 4 f.v=some f.v:=by rw[aU];simp
 obtain⟨Y1,pj⟩:=eX (α:=St) (Y++[.arr [f.v] 4 1]);have k1:bz Y Y1:=by rw[pj];exact(Kp.refl _ _).push _
 have bq:Y1[Y.length]?=aJ [f.v] 4:=by rw[pj];simp
 have l1:Y1.length=Y.length+1:=by rw[pj];simp
 have LZ:=h.f.k.len;simp at LZ;have hPl:=aR h.p;have LS:=h.hP;have fY:=h.f.to k1 (λ_ h=>h.elim) (λ_ _=>rfl);have p1:=k1.at h.p id;have AH:=h.gl.at k1 (λ_ h=>h.elim);have AK:=h.gt.at k1 (λ_ h=>h.elim);have go1:=h.go.at k1 (λ_ h=>h.elim);have gd1:=h.gd.at k1 (λ_ h=>h.elim);have Iy:=h.gb.at k1 (λ_ h=>h.elim);have zn:∀s,fits 1 [V.str s]=true:=λ_=>rfl
 have hw:IntKind.i64.wrap ((i:Int)+1)=((i+1:Nat):Int):=cG i;cases cF:f.value
 case false=>
  simp[ab,kF,aB,ru aB,<-hf,aL,aI,hn,<-pj,bq,cF];rw[hw];have mT:jD st (d.aj[i],xs[i])=⟨st.tk,st.es++[(f.name,x)],st.ds,st.nt⟩:=by rw[jD,<-hf,<-yp,au (by simp[cF])]
  refine⟨_,?_,_,?_,i+1,tl,tv,ov,dv,bv,ro,rd,rb,rfl,oM,?_,rfl⟩
  .omega
  .exact ba
  rw[wZ,mT];exact⟨fY.to (Kp.refl (λ_=>False) _) (λ_ h=>h.elim) (by rintro t (rfl|rfl|rfl)<;>simp),p1,h.hP,AH,AK,go1,gd1,Iy,h.dt,h.dd,by rw[h.wo,qfh];simp,h.wd,h.wb,h.mt,by have:=h.lt;omega,sM,sM,sM,sM⟩
 simp[ab,kF,aB,ru aB,<-hf,aL,aI,hn,<-pj,bq,cF];refine bE (qkE tv f.name tl Y1 AK.rd (GU (Is f7 f (by rw[hf];exact dz aB))) (by have:=h.lt;omega)) ?_;rintro v U ⟨⟨t,rfl,ht⟩,rfl⟩;have A9:=(ht.same h.mt).unique (VX Re);subst A9;obtain⟨t,A9⟩:=eX (CZ f.name st.tk);rw[<-A9];obtain⟨oj,Y2,ha2,IE,l2,k2,n2⟩:=AK.nO (bytes:=16) (x:=.sl true [.str t]) (ys:=[.str t]) rfl rfl (by have:=h.lt;simp;omega) oM;have nz:=vw AK l2 k2;have p2:=k2 _ _ p1 (AK.rA p1 (by decide));have Lc:=k2 _ _ bq (AK.rA bq (by decide));have FN:=AH.DT h.dt k2;have go2:=go1.other AK (by decide) k2;have FK:=gd1.other AK (by decide) k2;have AE:=Iy.other AK (by decide) k2
 have lro:ro.length=xs.length:=by
  have:=mn List.length h.wo;simp at this;omega
 obtain⟨lo,wr,oL,yn,Qz,sB⟩:∃lo wr,S.length+2<=lo/\ov=.arr lo 0 ro.length ro.length/\Y2[lo]?=some (.arr ro 7 wr)/\wr<=ro.length:=by
  rcases go2 with ⟨h1,_⟩|⟨lo,wr,h1,h2,h3,h4⟩
  .rw[h1]at lro;simp at lro;omega
  .exact⟨lo,wr,h1,h2,h3,h4⟩
 obtain⟨nr,uX⟩:=eX (α:=V) (.agg [af 6,z0,z0,z0,z0,.str t,sN]);have A6:nr.weak=(qk t).v:=by rw[uX,Ex.eW];rfl
 obtain⟨Y3,nR⟩:=eX (Y2.set lo (.arr (ro.set i nr) 7 ro.length));have k3:Kp (λk=>k=lo) Y2 Y3:=by rw[nR];exact(Kp.refl _ _).set _ (.inl rfl)
 have z1:gP Y2 7 ov (i:Int)=some (.ptr lo i 0 ro.length):=by
  rw[yn];simp only[gP,Qz];rw[ak ⟨sB,trivial,oM,oM⟩];simp
 have z3:aI Y2 (.ptr lo i 0 ro.length) 7 nr=some Y3:=by
  have hri:∃v0,ro[i]?=some v0/\V.fZ v0 0 7 nr=some nr:=by
   refine⟨ro[i]'oM,bX oM,?_⟩
   have bF:(ro[i]'oM).size=7:=by
    have h1:(ro.map V.weak)[i]?=some ((ro[i]'oM).weak):=by rw[dS,bX oM];rfl
    rw[h.wo,dS,ep]at h1;obtain⟨y,_,hy⟩:=h1;have h2:((ro[i]'oM).weak).size=7:=by rw[<-hy];exact Ex.iF y
    unfold V.size at h2 |-;rw[qab,bQ]at h2;exact h2
   have W8:nr.size=7/\nr.cells.all V.flat=true:=by rw[uX];exact⟨rfl,rfl⟩
   unfold V.fZ;rw[ak W8,ak ⟨rfl,bF.symm⟩]
  obtain⟨v0,e1,e2⟩:=hri;rw[nR];simp[aI,Qz,e1,e2]
 have n3:∀{l:Nat} {o:Ob} {ys:List V} {sz w:Nat},o=.arr ys sz w->sz≠7->Y2[l]?=some o->Y3[l]?=some o:=λ{l o ys sz w} ho hs hY=>by
  have bZ:lo≠l:=by
   rintro rfl;rw[Qz]at hY;cases hY;cases ho;exact hs rfl
  rw[nR,bG bZ];exact hY
 have V3:∀{sz n:Nat} {ys:List V} {w:V},sz≠7->Gr sz n ys w Y2->Gr sz n ys w Y3:=λ{sz n ys w} hs hg=>by
  rcases hg with h1|⟨l,wr,h1,h2,h3,h4⟩
  .exact .inl h1
  .exact .inr ⟨l,wr,h1,h2,n3 rfl hs h3,h4⟩
 have p3:=n3 rfl (by decide) p2;have H5:=n3 rfl (by decide) Lc;have Qy:=V3 (by decide) FN;have gt3:=V3 (by decide) IE;have Qq:=V3 (by decide) AE;have go4:Gr 7 (S.length+2) (ro.set i nr) ov Y3:=.inr ⟨lo,ro.length,oL,by rw[yn];simp,by rw[nR,bO (aR Qz)],sM⟩
 have AG:Gr 7 (S.length+2) rd dv Y3:=by
  rcases FK with h1|⟨l,wr',h1,h2,h3,h4⟩
  .exact .inl h1
  .refine .inr ⟨l,wr',h1,h2,?_,h4⟩;rw[nR,bG (λe=>h.dd l _ ro.length h2 (by rw[yn,e]))];exact h3
 have ny:rd.length<=9/\rb.length<=9:=by
  have h1:=mn List.length h.wd;have h2:=mn List.length h.wb;simp only[bQ]at h1 h2;have h3:=(EM tk ((d.aj.zip xs).take i)).2;rw[<-bg]at h3;simp at h3;omega
 have IY:∀k,fits 7 [He k t]=true:=λ_=>rfl
 obtain⟨ti,Y4,IR,Qs,l4,k4,n4⟩:=AG.nO (bytes:=120) (x:=.sl true [He f.type t]) (ys:=[He f.type t]) rfl (IY _) (by simp;omega) (by have:=k3.len;have:=nz.len;omega);have kn4:=vw AG l4 k4;have p4:=k4 _ _ p3 (AG.rA p3 (by decide));have V4:=Qy.other AG (by decide) k4;have gt4:=gt3.other AG (by decide) k4;have V0:=Qq.other AG (by decide) k4;have go5:=go4.DT h.dd k4;have dd4:=h.dd.grow go4 n4;obtain⟨Y5,yc⟩:=eX (Y4.set P (.arr [dm ti bv] 8 1));have p5:Y5[P]?=aJ [dm ti bv] 8:=by rw[yc];exact bO (aR p4)
 have s5:aI Y4 (eD P 6) 1 ti=some Y5:=by
  rw[yc];obtain⟨q1,q2,q3⟩:=Qs.flat;simp[aI,p4,dm,aU,q1,q2,q3]
 have Qw:∀{sz n:Nat} {ys:List V} {w:V},sz≠8->Gr sz n ys w Y4->Gr sz n ys w Y5:=λ{sz n ys w} hs hg=>by
  rcases hg with h1|⟨l,wr,h1,h2,h3,h4⟩
  .exact .inl h1
  .refine .inr ⟨l,wr,h1,h2,?_,h4⟩
   have bZ:P≠l:=by
    rintro rfl;rw[p4]at h3;cases h3;exact hs rfl
   rw[yc,bG bZ];exact h3
 have k5:Kp (λk=>k=P) Y4 Y5:=by rw[yc];exact(Kp.refl _ _).set _ (.inl rfl)
 have Da:=V0.at k5 (λl hl=>by omega);have IZ:fits 8 [Hg t x]=true:=rfl;have l5:Y5.length=Y4.length:=by rw[yc];simp
 have l3:Y3.length=Y2.length:=by rw[nR];simp
 obtain⟨ju,Y6,QH,Qr,l6,k6,-⟩:=Da.nO (bytes:=168) (x:=.sl true [Hg t x]) (ys:=[Hg t x]) rfl IZ (by simp;omega) oM;have Jo:=vw Da l6 k6;have p6:=Jo.at p5 oM;have gl6:=(Qw (by decide) V4).other Da (by decide) k6;have gt6:=(Qw (by decide) gt4).other Da (by decide) k6;have go6:=(Qw (by decide) go5).other Da (by decide) k6;have Qu:=(Qw (by decide) Qs).other Da (by decide) k6;obtain⟨Y7,AQ⟩:=eX (Y6.set P (.arr [dm ti ju] 8 1));have p7:Y7[P]?=aJ [dm ti ju] 8:=by rw[AQ];exact bO (aR p6)
 have s7:aI Y6 (eD P 7) 1 ju=some Y7:=by
  rw[AQ];obtain⟨q1,q2,q3⟩:=Qr.flat;simp[aI,p6,dm,aU,q1,q2,q3]
 have k7:Kp (λk=>k=P) Y6 Y7:=by rw[AQ];exact(Kp.refl _ _).set _ (.inl rfl)
 have Qx:∀{sz n:Nat} {ys:List V} {w:V},sz≠8->Gr sz n ys w Y6->Gr sz n ys w Y7:=λ{sz n ys w} hs hg=>by
  rcases hg with h1|⟨l,wr,h1,h2,h3,h4⟩
  .exact .inl h1
  .refine .inr ⟨l,wr,h1,h2,?_,h4⟩
   have bZ:P≠l:=by
    rintro rfl;rw[p6]at h3;cases h3;exact hs rfl
   rw[AQ,bG bZ];exact h3
 have V1:=Qr.at k7 (λl hl=>by omega);have QW:fits 7 [nr]=true:=by rw[uX];rfl
 have WR:fits 7 [x.v]=true:=by simp[fits]
 unfold He at IR IY;unfold Hg at QH IZ;rw[uX]at QW z3;simp[zn,ha2,bP,bR,aU,z1,z3,ab,p3,dm,H5,IY,IR,s5,p5,QW,WR,qJ Gh,<-yp,IZ,QH,s7,dP,eF,eZ];rw[hw];have mT:jD st (d.aj[i],xs[i])=⟨st.tk++[t],st.es++[(f.name,qk t)],st.ds++[vH f.type t],st.nt++[qB t x]⟩:=by rw[jD,<-hf,<-yp,ak cF,<-A9]
 refine⟨_,?_,_,?_,i+1,tl++[t],oj,ov,ti,ju,ro.set i nr,rd++[He f.type t],rb++[Hg t x],rfl,oM,?_,rfl⟩
 .omega
 .exact ba
 rw[wZ,mT];have f7:∀e',(∀t,t=1\/t=2\/t=4->e'.get t=ae.get [(15,af i),(14,ag P),(13,ov),(10,tv),(7,lv),(4,ag (S.length+1)),(2,ag S.length),(1,.sl b (xs.map Ex.v))] t)->Ah S d xs b e' Y7:=λe' he=>
  (((((fY.to nz (λl hl=>by omega) (λ_ _=>rfl)).to k3 (λl hl=>by omega) (λ_ _=>rfl)).to kn4 (λl hl=>by omega) (λ_ _=>rfl)).to k5 (λl hl=>by omega) (λ_ _=>rfl)).to Jo (λl hl=>by omega) (λ_ _=>rfl)).to k7 (λl hl=>by omega) he
 have wo:(ro.set i nr).map V.weak=((st.es++[(f.name,qk t)]).map (·.2)++xs.drop (i+1)).map Ex.v:=by
  rw[List.map_set,h.wo,A6,qfh,<-List.map_set];congr 1;rw[List.set_append_right _ _ (by simp;omega)];simp[pz]
 exact⟨f7 _ (by rintro t (rfl|rfl|rfl)<;>simp),p7,h.hP,Qx (by decide) gl6,by rw[cJ];exact Qx (by decide) gt6,Qx (by decide) go6,Qx (by decide) Qu,V1,h.dt.grow AH n2,dd4,wo,by simp[h.wd,qjT],by simp[h.wb,qjU],λy=>by rw[cU,cU,h.mt],by have:=h.lt;simp;omega,sM,sM,sM,sM⟩
def qpr{f n0 n1:Nat}{sv:V}{ns ro:List V}{lv ov:V}{X:St}{R:V->St->Prop}(gl:Gr 1 n0 ns lv X)(go:Gr 7 n1 ro ov X)(us:sv.under 0=true)(un:V.dr 0 ns=true)(uo:V.dr 0 ro=true)
  (g:∀b b' X',X'.length=X.length->(∀k o,X[k]?=some o->(∀n,lv≠.arr k 0 n n)->(∀n,ov≠.arr k 0 n n)->X'[k]?=some o)->aA prog f [sv,.sl b ns,.sl b' ro] X' R):aA prog f [sv,lv,ov] X R:=by
 have step:∀(b:Bool) (X1:St),X1.length=X.length->(∀k o,X[k]?=some o->(∀n,lv≠.arr k 0 n n)->X1[k]?=some o)->Gr 7 n1 ro ov X1->aA prog f [sv,.sl b ns,ov] X1 R:=λb X1 hl hk go1=>by
  rcases go1 with ⟨rfl,rfl⟩|⟨l,wr,hn,rfl,ho,hw⟩
  .exact g b true X1 hl λk o h1 h2 _=>hk k o h1 h2
  .refine aA.freeze ho ?_
   have e:V.iR l ro wr [sv,.sl b ns,.arr l 0 ro.length ro.length]=[sv,.sl b ns,ah ro]:=by
    simp[V.iR,V.du,hw,OJ (fS l) sv us,Hr (fS l) ns un]
   rw[e]
   exact g b false _ (by simp[hl]) λk o h1 h2 h3=>by
    rw[bG (λe=>h3 ro.length (by rw[e]))];exact hk k o h1 h2
 rcases gl with ⟨rfl,rfl⟩|⟨l,wr,hn,rfl,ho,hw⟩
 .exact step true X rfl (λ_ _ h _=>h) go
 .refine aA.freeze ho ?_;have ne:∀n,ov≠.arr l 0 n n:=go.rA ho (by decide)
  have hb:ov.du l ns wr=ov:=by
   rcases go with ⟨_,rfl⟩|⟨l2,wr2,_,rfl,wW,_⟩
   .rfl
   .simp only[V.du];rw[au (λh=>ne _ (by rw[<-h.1]))]
  have e:V.iR l ns wr [sv,.arr l 0 ns.length ns.length,ov]=[sv,ah ns,ov]:=by
   simp[V.iR,V.du,hw,hb,OJ (fS l) sv us]
  rw[e];refine step false _ sM (λk o h1 h2=>by rw[bG (λe=>h2 ns.length (by rw[e]))];exact h1) ?_;rcases go with h|⟨l2,wr2,h1,rfl,wW,h4⟩
  .exact .inl h
  .refine .inr ⟨l2,wr2,h1,rfl,?_,h4⟩;rw[bG (λe=>ne _ (by rw[e]))];exact wW
def qpt{f n0 n1 P:Nat}{rd rb:List V}{dv bv:V}{X:St}{R:V->St->Prop}(gd:Gr 7 n0 rd dv X)(gb:Gr 8 n1 rb bv X)(h01:n0<=n1)(LS:n0<=P)(ud:V.dr 0 rd=true)(ub:V.dr 0 rb=true)(hp:X[P]?=aJ [dm dv bv] 8)(hb:∀n,bv≠.arr P 0 n n)
  (g:∀b b' X',X'.length=X.length->(∀k,k<n0->X'[k]?=X[k]?)->X'[P]?=aJ [dm (.sl b rd) (.sl b' rb)] 8->aA prog f [dm (.sl b rd) (.sl b' rb)] X' R):aA prog f [dm dv bv] X R:=by
 have step:∀(b:Bool) (X1:St),X1.length=X.length->(∀k,k<n0->X1[k]?=X[k]?)->X1[P]?=aJ [dm (.sl b rd) bv] 8->Gr 8 n1 rb bv X1->aA prog f [dm (.sl b rd) bv] X1 R:=λb X1 hl hk mA Iy=>by
  rcases Iy with ⟨rfl,rfl⟩|⟨l,wr,hn,rfl,ho,hw⟩
  .exact g b true X1 hl hk mA
  .have WY:l≠P:=λe=>hb rb.length (by rw[e])
   refine aA.Qo ho mA WY ?_
   have e:V.iR l rb wr [dm (.sl b rd) (.arr l 0 rb.length rb.length)]=[dm (.sl b rd) (ah rb)]:=by
    simp[V.iR,V.du,dm,hw,Hr (fS l) rd ud]
   rw[e];have lP:=aR mA;exact g b false _ (by simp[hl]) (λk eU=>by rw[bG oM,bG oM];exact hk k eU) (bO (by simpa using lP))
 have yd:∀n,dv≠.arr P 0 n n:=gd.rA hp (by decide);rcases gd with ⟨rfl,rfl⟩|⟨l,wr,hn,rfl,ho,hw⟩
 .exact step true X rfl (λ_ _=>rfl) hp gb
 .have WY:l≠P:=λe=>yd rd.length (by rw[e])
  refine aA.Qo ho hp WY ?_;have ne:∀n,bv≠.arr l 0 n n:=gb.rA ho (by decide)
  have hbf:bv.du l rd wr=bv:=by
   rcases gb with ⟨_,rfl⟩|⟨l2,wr2,_,rfl,wW,_⟩
   .rfl
   .simp only[V.du];rw[au (λh=>ne _ (by rw[<-h.1]))]
  have e:V.iR l rd wr [dm (.arr l 0 rd.length rd.length) bv]=[dm (ah rd) bv]:=by
   simp[V.iR,V.du,dm,hw,hbf]
  rw[e];have lP:=aR hp;refine step false _ sM (λk eU=>by rw[bG oM,bG oM]) (bO (by simpa using lP)) ?_;rcases gb with h|⟨l2,wr2,h1,rfl,wW,h4⟩
  .exact .inl h
  .refine .inr ⟨l2,wr2,h1,rfl,?_,h4⟩;rw[bG (λe=>hb _ (by rw[e])),bG (λe=>ne _ (by rw[e]))];exact wW
def qlz:∀(es:List Ae),(es.map (·.1)).zip (es.map (·.2))=es
 |[]=>rfl
 |e::es=>by rw[cQ,cQ,KP,qlz es]
def qep:∀{xs:List Ex},(∀x,x∈xs->(Pa.ex x).err aH=0)->lu xs=0
 |[],_=>rfl
 |x::xs,h=>by
  rw[lu,au (not_not_intro (h x sM))];exact qep λy hy=>h y (by simp[hy])
section
variable {d:De} {xs:List Ex} (h0:ja d xs=0) (hd:d.ok) (ho:∀x,x∈xs->x.ok) (hl:xs.length<=9) (hz:bk (xs.map Pa.ex)<=60) (bF:∀s,s∈d.body->(Pa.st s).size<150/\Sm.bH [s]<150)
include h0 hl hz bF hd ho
theorem qzK:(Pa.st d.dy).err aH=0/\sV d.dy (d.aj.map (·.name)) ((db d xs).es.map (·.2))=sR d.dy (d.aj.map (·.name)) (db d xs).es/\sE d.dy (d.aj.map (·.name)) ((db d xs).es.map (·.2))=qS d.dy (d.aj.map (·.name)) (db d xs).es:=by
 obtain⟨hI,qc,tD,qg,yL,jw⟩:=OT h0 hd ho hl hz bF;obtain⟨f1,f2,f3,f4,f5,f6,f7,f8,f9⟩:=zi h0
 have he:(Pa.st d.dy).err aH=0:=by
  have hk:Pa.st d.dy∈(Pa.de d).kids:=by simp[Pa.kids,f9]
  obtain⟨i,hi⟩:=qX.1 hk;have h1:=qd7 hi;have h2:=(zh f2).1.2;rw[Pa.CS]at h2;have h3:=(bF _ f9).1;unfold Pa.err;rw[ak ⟨oM,oM⟩,ak f8]
 have qgg:(d.aj.map (·.name)).zip ((db d xs).es.map (·.2))=(db d xs).es:=by
  rw[<-qg];exact qlz (db d xs).es
 have hp:vA (d.aj.map (·.name)) ((db d xs).es.map (·.2))=0:=by
  have a1:(d.aj.map (·.name)).length=((db d xs).es.map (·.2)).length:=by rw[<-qg];simp
  have a2:(iQ (d.aj.map (·.name)) λs=>!aH s)=false:=by
   unfold iQ;rw[List.any_eq_false];intro y hy;obtain⟨f,hf,rfl⟩:=cY.1 hy;simp[Is f7 f hf]
  unfold vA;rw[au (by rw[not_or];exact⟨not_not_intro a1,by rw[a2];simp⟩),au (not_not_intro (VU f7).1)]
  exact qep λy hy=>by
   obtain⟨e,hee,rfl⟩:=cY.1 hy;exact(qc e hee).2
 have h1:sE d.dy (d.aj.map (·.name)) ((db d xs).es.map (·.2))=qS d.dy (d.aj.map (·.name)) (db d xs).es:=by
  unfold sE;rw[au (not_not_intro he),au (not_not_intro hp),qgg]
 refine⟨he,?_,h1⟩;unfold sV sR;rw[h1,qgg]
end
structure Ue(S:St)(d:De)(P N:Nat)(dv bv wv:V)(rd rb:List V)(e:ae)(Y:St):Prop where
 k:bz (S++[.arr [d.v] 7 1,.arr [bL] 8 1]) Y
 p:Y[P]?=aJ [dm dv bv] 8
 n:Y[N]?=aJ [wv] 8
 gd:Gr 7 (S.length+2) rd dv Y
 gb:Gr 8 (P+1) rb bv Y
 hP:S.length+2<=P
 hN:P<N
 nb:∀n,bv≠.arr N 0 n n
 g4:e.get 4=some (ag (S.length+1))
 g14:e.get 14=some (ag P)
 g18:e.get 18=some (ag N)
def qlZ(S:St)(d:De)(P N:Nat)(dv bv wv:V)(rd rb:List V)(er:Int)(e:ae)(Y:St):Prop:=Ue S d P N dv bv wv rd rb e Y/\e.get 6=some (af er)
def qcM(S:St)(d:De)(P N:Nat)(dv bv wv:V)(rd rb:List V)(c:Prop)(e:ae)(Y:St):Prop:=Ue S d P N dv bv wv rd rb e Y/\c
def ql0(S:St)(d:De)(P N:Nat)(dv bv:V)(o:Sm)(rd rb:List V)(e:ae)(Y:St):Prop:=∃wv,wv.weak=(pP o).v/\(wv.size=8/\wv.cells.all V.flat=true/\V.part wv 0 (some 8)=some wv)/\Ue S d P N dv bv wv rd rb e Y
def qlY(S:St)(d:De)(P:Nat)(dv:V)(o:Sm)(rd rb:List V)(e:ae)(Y:St):Prop:=∃wv bv,wv.weak=(pP o).v/\bz (S++[.arr [d.v] 7 1,.arr [bL] 8 1]) Y/\Y[P]?=aJ [dm dv bv] 8/\Gr 7 (S.length+2) rd dv Y/\Gr 8 (P+1) (rb++[wv]) bv Y/\S.length+2<=P/\e.get 4=some (ag (S.length+1))/\e.get 14=some (ag P)
def qzb(d:De)(hd:d.ok)(b:Bool)(xs:List Ex)(ho:∀x,x∈xs->x.ok)(hl:xs.length<=9)(hz:bk (xs.map Pa.ex)<=60)(bF:∀s,s∈d.body->(Pa.st s).size<150/\Sm.bH [s]<150)(h0:ja d xs=0)(S:St)
  (a1 a2 a3 a4 a5 a6 a7 a8 a9 mh mi a12 we wh wj a16 a17 t:C') (hc:vU.c.body=.seq a1 (.seq a2 (.seq a3 (.seq a4 (.seq a5 (.seq a6 (.seq a7 (.seq a8 (.seq a9 (.seq mh (.seq mi (.seq a12 (.seq we (.seq wh (.seq wj (.seq a16 (.seq a17 t)))))))))))))))))
  {e:ae} {X:St} (h:EW S d xs b d.aj.length (db d xs) e X):
  WP prog t (eN [.cell 4 (some 8),.t 5] S.length (λr U=>r=.aV [gB d xs,af (jd d xs)]/\bz S U)) e X:=by
 simp only[vU,fW,C'.seq.injEq]at hc;obtain⟨-,-,-,-,-,-,-,-,-,-,-,-,-,-,-,-,-,rfl⟩:=hc;obtain⟨P,tl,lv,tv,ov,dv,bv,ro,rd,rb,h⟩:=h;obtain⟨f1,f2,f3,f4,f5,f6,f7,f8,f9⟩:=zi h0;obtain⟨hI,qc,tD,qg,yL,jw⟩:=OT h0 hd ho hl hz bF;obtain⟨z1,z2⟩:=bF _ f9;obtain⟨e1,e2,e3⟩:=qzK h0 hd ho hl hz bF;have kF:=h.f.k.at (l:=S.length) (o:=.arr [d.v] 7 1) sM id;have AV:0<d.body.length:=oM
 have hs:d.body=[d.dy]:=by
  unfold De.dy
  match hd:d.body,f6 with
  |[s],_=>rfl
 have uZ:d.body[0]=d.dy:=by simp[hs]
 obtain⟨o,MY⟩:=eX (tW d.dy (d.aj.map (·.name)) (db d xs).es);obtain⟨er,tq⟩:=eX (qS d.dy (d.aj.map (·.name)) (db d xs).es);obtain⟨vv,tG⟩:=eX (sR d.dy (d.aj.map (·.name)) (db d xs).es);have pz:(db d xs).es.length=d.aj.length:=by have:=mn List.length qg;simpa using this
 have wo:=h.wo;rw[List.drop_of_length_le oM,pR]at wo
 have call:aA prog 49 [d.dy.v,lv,ov] X (λr U=>r=.aV [vv,af er]/\∃X1:St,X1.length=X.length/\(∀k o,X[k]?=some o->(∀n,lv≠.arr k 0 n n)->(∀n,ov≠.arr k 0 n n)->X1[k]?=some o)/\bz X1 U):=by
  refine qpr h.gl h.go (Sm.eE d.dy) (by
   exact BM λv hv=>by
    obtain⟨q,_,rfl⟩:=cY.1 hv
    rfl) (BN _ (by
   rw[iO,wo]
   exact BM λv hv=>by
    obtain⟨q,_,rfl⟩:=cY.1 hv;exact Ex.eE q)) λb1 b2 X1 x0 hk=>aA.yR ?_
  have e:V.cR [d.dy.v,.sl b1 ((d.aj.map (·.name)).map .str),.sl b2 ro]=[d.dy.v,ah ((d.aj.map (·.name)).map .str),ah (((db d xs).es.map (·.2)).map Ex.v)]:=by
   simp only[V.cR,V.weak,Sm.jq,oW];rw[iO,wo]
  rw[e];refine(qx7 d.dy yL z1 z2 e1 false false (d.aj.map (·.name)) ((db d xs).es.map (·.2)) (by simp;omega) (by simp;omega) (by rw[nJ];exact tD) (λx hx=>?_) X1).mono ?_
  .obtain⟨q,hq,rfl⟩:=cY.1 hx;exact(qc q hq).1
  .rintro r U ⟨rfl,kU⟩;exact⟨by rw[e2,e3,tG,tq],X1,x0,hk,kU⟩
 have LS:=h.hP;have hXl:=h.f.k.len;simp at hXl
 have z8:vv.size=8/\vv.cells.all V.flat=true/\V.part vv 0 (some 8)=some vv:=by
  rw[tG];unfold sR;split
  .exact⟨Sm.iF _,sM,yF _⟩
  .exact⟨rfl,rfl,rfl⟩
 have mT:jd d xs=J6 d xs:=by unfold jd;rw[au (not_not_intro h0)]
 have kK:J6 d xs=if er≠0 then er else if(db d xs).ds=[] then 0 else(Pa.st (Hy d xs)).err aH:=by rw[tq];rfl
 have fin:∀(Y:St) (y:V) (e1:Int) (ev:ae),bz (S++[.arr [d.v] 7 1,.arr [bL] 8 1]) Y->gB d xs=y->jd d xs=e1->ev.get 4=some (ag (S.length+1))->ev.get 5=some (af e1)->V.part y 0 (some 8)=some y->
   eN [.cell 4 (some 8),.t 5] S.length (λr U=>r=.aV [gB d xs,af (jd d xs)]/\bz S U) .ret ev (Y.set (S.length+1) (.arr [y] 8 1)):=λY y e1 ev kY hy he g4 g5 hp=>by
  have h1:=kY.at (l:=S.length+1) (o:=.arr [bL] 8 1) (by rw[cx oM];simp) id;have h2:(Y.set (S.length+1) (.arr [y] 8 1))[S.length+1]?=aJ [y] 8:=bO (aR h1);exact bu (vs:=[y,af e1]) (by simp[eL,g4,g5,ab,h2,hp]) ⟨by rw[hy,he];rfl,(((Kp.refl _ _).push _).trans kY).set _ (.inr oM)⟩
 have Hn:∀(Y:St) (y:V),bz (S++[.arr [d.v] 7 1,.arr [bL] 8 1]) Y->(y.size=8/\y.cells.all V.flat=true/\V.part y 0 (some 8)=some y)->aI Y (ag (S.length+1)) 8 y=some (Y.set (S.length+1) (.arr [y] 8 1)):=λY y kY y8=>by
  have h1:=kY.at (l:=S.length+1) (o:=.arr [bL] 8 1) (by rw[cx oM];simp) id;unfold bL at h1;simp[aI,h1,aU,y8]
 have zz8:bL.size=8/\bL.cells.all V.flat=true/\V.part bL 0 (some 8)=some bL:=⟨rfl,rfl,rfl⟩;have sz4:∀(Y:St),bz (S++[.arr [d.v] 7 1,.arr [bL] 8 1]) Y->aI Y (ag (S.length+1)) 8 zS=some (Y.set (S.length+1) (.arr [bL] 8 1)):=λY kY=>Hn Y bL kY zz8
 refine cS (λe Y=>∃N,qlZ S d P N dv bv vv rd rb er e Y) ?_ ?_
 .simp[h.f.g2,ab,kF,Bg AV,uZ,h.g7,h.g13];refine bE call ?_;rintro r U ⟨rfl,X1,X8,bW,kU⟩;have lU:=kU.len;have I1:∀k o,X[k]?=some o->(∀n,lv≠.arr k 0 n n)->(∀n,ov≠.arr k 0 n n)->U[k]?=some o:=λk o h1 h2 h3=>kU.at (bW k o h1 h2 h3) id
  have pU:=I1 _ _ h.p (h.gl.rA h.p (by decide)) (h.go.rA h.p (by decide))
  have V2:Gr 7 (S.length+2) rd dv U:=by
   rcases h.gd with h1|⟨l,wr,c1,c2,c3,c4⟩
   .exact .inl h1
   .exact .inr ⟨l,wr,c1,c2,I1 l _ c3 (h.gl.rA c3 (by decide)) (λn en=>h.dd l _ n c2 en),c4⟩
  have LG:Gr 8 (P+1) rb bv U:=by
   rcases h.gb with h1|⟨l,wr,c1,c2,c3,c4⟩
   .exact .inl h1
   .exact .inr ⟨l,wr,c1,c2,I1 l _ c3 (h.gl.rA c3 (by decide)) (h.go.rA c3 (by decide)),c4⟩
  have kk:bz (S++[.arr [d.v] 7 1,.arr [bL] 8 1]) U:=by
   refine⟨by simp;omega,λl hl _=>?_⟩;have cj:l<S.length+2:=by simpa using hl
   have h1:=h.f.k.get l hl id;have h2:=I1 l _ (bX oM) (h.gl.ne cj) (h.go.ne cj);rw[h2,<-bX];exact h1
  have hPU:=aR pU;simp[aL,aI,aU,z8];have kP:bz U (U++[.arr [vv] 8 1]):=(Kp.refl _ _).push _;exact⟨U.length,⟨kk.trans kP,kP.at pU id,sM,V2.at kP (λl hl=>hl.elim),LG.at kP (λl hl=>hl.elim),LS,oM,LG.fresh cz,by simp[h.f.g4],by simp[h.g14],sM⟩,sM⟩
 clear call;rintro e1 Y ⟨N,r,g6⟩;have Yk:rd.length=(db d xs).ds.length:=by have:=mn List.length h.wd;simpa using this
 have out:∀(ev:ae),gB d xs=bL->jd d xs=er->ev.get 4=some (ag (S.length+1))->ev.get 5=some (af er)->eN [.cell 4 (some 8),.t 5] S.length (λr U=>r=.aV [gB d xs,af (jd d xs)]/\bz S U) .ret ev (Y.set (S.length+1) (.arr [bL] 8 1)):=λev h1 h2 g4 g5=>fin Y bL er ev r.k h1 h2 g4 g5 rfl
 refine cS (qcM S d P N dv bv vv rd rb (er=0)) ?_ ?_
 .by_cases he:er=0
  case neg=>
   have pH:jd d xs=er:=by rw[mT,kK,ak he]
   have nY:gB d xs=bL:=by
    unfold gB;rw[pH,au he]
   simp[g6,he,r.g4,bP,bR,sz4 _ r.k];exact out _ nY pH (by simp[r.g4]) sM
  simp[g6,he];exact⟨⟨r.k,r.p,r.n,r.gd,r.gb,r.hP,r.hN,r.nb,by simp[r.g4],by simp[r.g14],by simp[r.g18]⟩,trivial⟩
 clear out r g6 e1 Y;rintro e1 Y ⟨r,he⟩;have Gn:vv=o.v:=by rw[tG];unfold sR;rw[<-tq,ak he,<-MY]
 have outv:∀(ev:ae),gB d xs=vv->jd d xs=0->ev.get 4=some (ag (S.length+1))->ev.get 5=some z0->eN [.cell 4 (some 8),.t 5] S.length (λr U=>r=.aV [gB d xs,af (jd d xs)]/\bz S U) .ret ev (Y.set (S.length+1) (.arr [vv] 8 1)):=λev h1 h2 g4 g5=>fin Y vv 0 ev r.k h1 h2 g4 g5 z8.2.2
 have Dy:sG dv=some (af rd.length):=by
  rcases r.gd with ⟨e1,e2⟩|⟨_,_,_,e2,_⟩
  .rw[e1,e2];rfl
  .rw[e2];rfl
 refine cS (qcM S d P N dv bv vv rd rb (rd.length≠0)) ?_ ?_
 .by_cases ny:rd.length=0
  case pos=>
   have io:(db d xs).ds=[]:=KE oM;have pH:jd d xs=0:=by rw[mT,kK,au (not_not_intro he),ak io]
   have nY:gB d xs=vv:=by
    unfold gB;rw[pH,ak rfl,tG];unfold sR Af;rw[<-tq,ak he,ak io];rfl
   simp[r.g14,r.g18,ab,r.n,r.p,dm,↓jm,Dy,ny,z8,r.g4,Hn _ _ r.k z8];exact outv _ nY pH (by simp[r.g4]) sM
  have bZ:¬rd=[]:=λe=>ny (by rw[e];rfl)
  simp[r.g14,r.g18,ab,r.n,r.p,dm,↓jm,Dy,bZ];exact⟨⟨r.k,r.p,r.n,r.gd,r.gb,r.hP,r.hN,r.nb,by simp[r.g4],by simp[r.g14],by simp[r.g18]⟩,trivial⟩
 clear outv r e1 Y Dy;rintro e1 Y' ⟨r,ny⟩;have lo:Y'[N]?=aJ [o.v] 8:=by rw[<-Gn];exact r.n
 refine cS (ql0 S d P N dv bv o rd rb) ?_ ?_
 .by_cases nW:o.labels=[]
  .have hw:pP o=o:=by unfold pP;rw[ak nW]
   simp[r.g18,ab,lo,nW];exact⟨vv,by rw[hw,Gn,Sm.jq],z8,r.k,r.p,r.n,r.gd,r.gb,r.hP,r.hN,r.nb,by simp[r.g4],by simp[r.g14],by simp[r.g18]⟩
  .have hw:pP o=.mk [] 8 ⟨⟨[]⟩⟩ [] [] [] [] [o]:=by unfold pP;rw[au nW]
   have W7:0<o.labels.length:=List.length_pos_iff.2 nW;have mN:fits 8 [o.v]=true:=by simp[fits]
   have sA:aI Y' (ag N) 8 (.agg [sN,af 8,.str ⟨⟨[]⟩⟩,sN,sN,sN,sN,.sl true [o.v]])=some (Y'.set N (.arr [.agg [sN,af 8,.str ⟨⟨[]⟩⟩,sN,sN,sN,sN,.sl true [o.v]]] 8 1)):=by
    simp[aI,lo,vG,aU]
   simp[r.g18,ab,lo,W7,bP,bR,aU,mN,sA];have Wq:P≠N:=by have:=r.hN;omega
   have kN:Kp (λk=>k=N) Y' (Y'.set N (.arr [.agg [sN,af 8,.str ⟨⟨[]⟩⟩,sN,sN,sN,sN,.sl true [o.v]]] 8 1)):=(Kp.refl _ _).set _ (.inl rfl);refine⟨.agg [sN,af 8,.str ⟨⟨[]⟩⟩,sN,sN,sN,sN,.sl true [o.v]],?_,⟨rfl,rfl,rfl⟩,?_,kN.at r.p Wq,bO (aR r.n),?_,?_,r.hP,r.hN,r.nb,by simp[r.g4],by simp[r.g14],by simp[r.g18]⟩
   .rw[hw,Sm.eW (.mk [] 8 ⟨⟨[]⟩⟩ [] [] [] [] [o])];show V.agg [_,_,_,_,_,_,_,ah [o.v.weak]]=V.agg [_,_,_,_,_,_,_,ah [o.v]];rw[Sm.jq];rfl
   .exact r.k.set _ (.inr (by have:=r.hN;have:=r.hP;simp;omega))
   .rcases r.gd with hh|⟨l,wr,c1,rfl,c3,c4⟩
    .exact .inl hh
    .refine .inr ⟨l,wr,c1,rfl,?_,c4⟩;rw[bG (λe=>r.gd.rA lo (by decide) rd.length (by rw[e]))];exact c3
   .rcases r.gb with hh|⟨l,wr,c1,rfl,c3,c4⟩
    .exact .inl hh
    .refine .inr ⟨l,wr,c1,rfl,?_,c4⟩;rw[bG (λe=>r.nb rb.length (by rw[e]))];exact c3
 clear r lo Gn e1 Y';rintro e1 Y ⟨wv,Ba,w8,r⟩
 have FY:fits 8 [wv]=true:=by
  unfold fits;rw[Ak,w8.1,w8.2.1];rfl
 have hrb:rb.length<=9:=by
  have h1:=mn List.length h.wb;simp only[bQ]at h1;have h2:=EM (qD d xs) (d.aj.zip xs);have h3:rb.length=(db d xs).nt.length:=h1
  have h4:(db d xs).ds.length<=d.aj.length:=by
   have:=h2.2.2;simp at this;unfold db;omega
  have h5:(db d xs).ds.length=(db d xs).nt.length:=h2.2.1;omega
 obtain⟨ju,Y2,ha,AE,l2,k2,-⟩:=r.gb.nO (bytes:=168) (x:=.sl true [wv]) (ys:=[wv]) rfl FY (by simp;omega) (by have:=r.hN;have:=aR r.n;omega);have nz:=vw r.gb l2 k2;have p2:=nz.at r.p oM;have FK:=r.gd.other r.gb (by decide) k2;obtain⟨Y3,nR⟩:=eX (Y2.set P (.arr [dm dv ju] 8 1));have k3:Kp (λk=>k=P) Y2 Y3:=by rw[nR];exact(Kp.refl _ _).set _ (.inl rfl)
 have s3:aI Y2 (eD P 7) 1 ju=some Y3:=by
  rw[nR];obtain⟨z1,z2,z3⟩:=AE.flat;simp[aI,p2,dm,aU,z1,z2,z3]
 refine cS (qlY S d P dv o rd rb) ?_ ?_
 .simp[r.g14,r.g18,ab,r.p,dm,r.n,w8,FY,ha,s3];refine⟨wv,ju,Ba,?_,by rw[nR];exact bO (aR p2),?_,AE.at k3 (λl hl=>by omega),LS,by simp[r.g4],by simp[r.g14]⟩
  .refine⟨by have:=r.k.len;have:=k3.len;omega,λl hl _=>?_⟩;have cj:l<S.length+2:=by simpa using hl
   have:=r.k.len;simp at this;have hP:=r.hP;rw[k3.get l oM oM,nz.get l oM oM,r.k.get l hl id]
  .rcases FK with h1|⟨l,wr,c1,c2,c3,c4⟩
   .exact .inl h1
   .refine .inr ⟨l,wr,c1,c2,?_,c4⟩
    have bZ:P≠l:=by
     rintro rfl;rw[p2]at c3;cases c3
    rw[nR,bG bZ];exact c3
 clear r ha AE l2 k2 nz p2 FK nR k3 s3 w8 Ba FY e1 Y Y2 Y3 ju wv;rintro e1 Y ⟨wv,ju,Ba,kY,pY,LJ,Iz,_,g4,g14⟩;obtain⟨nP,AW⟩:=eX (Hy d xs);have io:(db d xs).ds≠[]:=λhd=>ny (by rw[Yk,hd];rfl)
 have wd:=h.wd;have wb:(rb++[wv]).map V.weak=((db d xs).nt++[pP o]).map Sm.v:=by rw[cJ,cJ,h.wb];simp[Ba]
 have ud:V.dr 0 rd=true:=BN _ (by
  rw[iO,wd]
  exact BM λv hv=>by
   obtain⟨q,_,rfl⟩:=cY.1 hv;exact De.eE q)
 have ub:V.dr 0 (rb++[wv])=true:=BN _ (by
  rw[iO,wb]
  exact BM λv hv=>by
   obtain⟨q,_,rfl⟩:=cY.1 hv;exact Sm.eE q)
 have Va:nP.ok:=by rw[AW];exact qal h0 hd ho hl hz bF
 have bwk:∀b1 b2,(dm (.sl b1 rd) (.sl b2 (rb++[wv]))).weak=nP.v:=λb1 b2=>by
  rw[AW,Sm.eW];show V.agg [ah [],af 7,.str ⟨⟨[]⟩⟩,ah [],ah [],ah [],ah (V.cR rd),ah (V.cR (rb++[wv]))]=V.agg [ah [],af 7,.str ⟨⟨[]⟩⟩,ah [],ah [],ah [],ah ((db d xs).ds.map De.v),ah (((db d xs).nt++[pP (J7 d xs)]).map Sm.v)];rw[iO,iO,wd,wb,MY];rfl
 have su:∀n,ju≠.arr P 0 n n:=Iz.ne oM
 have qmT:aA prog 20 [dm dv ju] Y (λr U=>r=af ((Pa.st nP).err aH)/\(∀k,k<S.length+2->U[k]?=Y[k]?)/\U.length=Y.length/\∃b1 b2,U[P]?=aJ [dm (.sl b1 rd) (.sl b2 (rb++[wv]))] 8):=by
  refine qpt LJ Iz oM LS ud ub pY su λb1 b2 X1 sj bW mA=>aA.yR ?_
  have e:V.cR [dm (.sl b1 rd) (.sl b2 (rb++[wv]))]=[nP.v]:=by
   show [(dm (.sl b1 rd) (.sl b2 (rb++[wv]))).weak]=_;rw[bwk]
  rw[e]
  exact(ZA nP Va X1).mono λr U hr=>by
   obtain⟨q1,rfl⟩:=hr;exact⟨q1,bW,sj,b1,b2,mA⟩
 have pb:V.part (dm dv ju) 0 (some 8)=some (dm dv ju):=by
  obtain⟨q1,q2,q3⟩:=LJ.flat;obtain⟨q4,q5,q6⟩:=Iz.flat;simp[V.part,dm,V.size,V.isAgg,q1,q4]
 have X6:ab Y (ag P) (some 8)=some (dm dv ju):=by simp[ab,pY,pb]
 simp[g14,X6];refine bE qmT ?_;rintro r U ⟨rfl,I1,hlU,b1,b2,pU⟩
 have mV:bz (S++[.arr [d.v] 7 1,.arr [bL] 8 1]) U:=by
  refine⟨by have:=kY.len;omega,λl hl _=>?_⟩;have cj:l<S.length+2:=by simpa using hl
  rw[I1 l cj,kY.get l hl id]
 have pH:jd d xs=(Pa.st nP).err aH:=by rw[mT,kK,au (not_not_intro he),au io,AW]
 by_cases h9:(Pa.st nP).err aH=0
 case neg=>
  have nY:gB d xs=bL:=by
   unfold gB;rw[pH,au h9]
  simp[h9,g4,bP,bR,sz4 _ mV];exact fin U bL _ _ mV nY pH (by simp[g4]) sM rfl
 have nY:gB d xs=nP.v:=by
  unfold gB Af;rw[pH,ak h9,au io,AW]
 obtain⟨y,hy⟩:=eX (dm (.sl b1 rd) (.sl b2 (rb++[wv])));have Jk:y.weak=nP.v:=by rw[hy];exact bwk b1 b2
 have y8:y.size=8/\y.cells.all V.flat=true/\V.part y 0 (some 8)=some y:=by rw[hy];exact⟨rfl,rfl,rfl⟩
 rw[<-hy]at pU;simp[h9,g4,g14,ab,pU,y8,Hn _ _ mV y8];have h1:=mV.at (l:=S.length+1) (o:=.arr [bL] 8 1) (by rw[cx oM];simp) id;have h2:(U.set (S.length+1) (.arr [y] 8 1))[S.length+1]?=aJ [y] 8:=bO (aR h1);refine⟨[y,z0],by simp[eL,g4,ab,h2,y8],_,_,dJ.weak,?_,(((Kp.refl _ _).push _).trans mV).set _ (.inr oM)⟩;show V.aV [y.weak,z0]=_;rw[Jk,nY,pH,h9]
def qx0(d:De)(hd:d.ok)(b:Bool)(xs:List Ex)(ho:∀x,x∈xs->x.ok)(hl:xs.length<=9)(hz:bk (xs.map Pa.ex)<=60)(bF:∀s,s∈d.body->(Pa.st s).size<150/\Sm.bH [s]<150)(S:St):
  aA prog 28 [d.v,.sl b (xs.map Ex.v)] S (λr U=>r=.aV [gB d xs,af (jd d xs)]/\bz S U):=by
 refine aA.ib vU ?_;obtain⟨a1,a2,a3,a4,a5,a6,a7,a8,a9,mh,mi,a12,we,wh,wj,a16,a17,t,hc⟩:∃a1 a2 a3 a4 a5 a6 a7 a8 a9 mh mi a12 we wh wj a16 a17 t,vU.c.body=.seq a1 (.seq a2 (.seq a3 (.seq a4 (.seq a5 (.seq a6 (.seq a7 (.seq a8 (.seq a9 (.seq mh (.seq mi (.seq a12 (.seq we (.seq wh (.seq wj (.seq a16 (.seq a17 t)))))))))))))))):=⟨_,_,_,_,_,_,_,_,_,_,_,_,_,_,_,_,_,_,rfl⟩;refine qy8 d hd b xs oM ho S _ (λh U kU=>?_) (λh0 e X hN=>?_) a1 a2 a3 a4 a5 a6 a7 a8 a9 mh mi hc
 .have h1:jd d xs=ja d xs:=by unfold jd;rw[ak h]
  refine⟨?_,kU⟩;unfold gB;rw[h1,au h]
 .exact qy9 d hd b xs ho hl hz bF h0 S _ a1 a2 a3 a4 a5 a6 a7 a8 a9 mh mi a12 we wh wj a16 _ hc (λe X h=>qza d hd b xs ho hl hz bF h0 S _ a1 a2 a3 a4 a5 a6 a7 a8 a9 mh mi a12 we wh wj a16 a17 t hc (λe X h=>qzb d hd b xs ho hl hz bF h0 S a1 a2 a3 a4 a5 a6 a7 a8 a9 mh mi a12 we wh wj a16 a17 t hc h) h) hN
def qzJ(d:De)(xs:List Ex):(gB d xs).size=8/\(gB d xs).cells.all V.flat=true/\V.part (gB d xs) 0 (some 8)=some (gB d xs):=by
 unfold gB;split
 .exact⟨Sm.iF _,sM,yF _⟩
 .exact⟨rfl,rfl,rfl⟩
def qzI{d:De}{xs:List Ex}(h:jd d xs=0):ja d xs=0/\(Pa.st (Af d xs)).err aH=0:=by
 unfold jd at h;by_cases h0:ja d xs=0
 case neg=>rw[ak h0]at h;exact absurd h h0
 rw[au (not_not_intro h0)]at h;refine⟨h0,?_⟩;unfold J6 at h;by_cases h1:qS d.dy (d.aj.map (·.name)) (db d xs).es=0
 case neg=>rw[ak h1]at h;exact absurd h h1
 rw[au (not_not_intro h1)]at h;unfold Af;by_cases h2:(db d xs).ds=[]
 .rw[ak h2];unfold qS at h1;unfold J7;split at h1
  .rename_i h3;exact absurd h1 h3
  .split at h1
   .cases h1
   .exact h1
 .rw[au h2]at h |-;exact h
open Classical in
def qx8(d:De)(xs:List Ex)(hd:d.ok)(XA:xs.length<=bi)(ox:Ex.cH xs):Fn prog 5 [d.v,ah (xs.map Ex.v)] [] (.bool true):=by
 refine aA.ib C5 ?_;obtain⟨S1,bB⟩:=eX (α:=St) ([.arr [d.v] 7 1]);have b0:S1[0]?=aJ [d.v] 7:=by rw[bB];rfl
 have ld:∀{U:St},bz S1 U->ab U (ag 0) (some 7)=some d.v:=λk=>by
  have c0:=k.at b0 id;simp[ab,c0]
 have d0:=ld (Kp.refl _ S1);obtain⟨s0,uZ⟩:=eX (α:=Sm) (.mk [] 0 ⟨⟨[]⟩⟩ [] [] [] [d] []);have yL:s0.ok:=by rw[uZ];exact Zk (by simp[bi]) (λx hx=>by simp at hx;rw[hx];exact hd) sM (λx hx=>by simp at hx)
 have q17:∀S,Fn prog 17 [.agg [sN,z0,.str ⟨⟨[]⟩⟩,sN,sN,sN,.sl true [d.v],sN]] S (.bool s0.NK):=λS=>aA.yR (by
  have h1:=qxg s0 yL S;have h2:s0.v=.agg [ah [],z0,.str ⟨⟨[]⟩⟩,ah [],ah [],ah [],ah [d.v],ah []]:=by rw[uZ,Sm.eW];rfl
  rw[h2]at h1;simpa[V.cR,V.weak,De.jq]using h1)
 have mN:fits 7 [d.v]=true:=by simp[fits]
 simp[C5,aL];rw[<-bB];simp[d0,mN,bP,bR,aU];refine aZ (q17 S1) ?_
 cases la:s0.NK with
 |false=>
  simp;refine aZ (Zx S1) ?_;simp;exact aQ (r:=rfl)
 |true=>
 simp;refine aZ (qxV xs XA ox S1) ?_;by_cases hx:xs.length<=9/\0<Ex.eQ xs 0 60
 case neg=>
  have:(decide (xs.length<=9)&&decide (0<Ex.eQ xs 0 60))=false:=by
   rw[OY,decide_eq_false_iff_not,decide_eq_false_iff_not];exact Classical.not_and_iff_not_or_not.1 hx
  simp[this];refine aZ (Zx S1) ?_;simp;exact aQ (r:=rfl)
 have zs:=qs7 la
 have zx:bk (xs.map Pa.ex)<60:=by
  have:=Ex.NE xs 0 60 hx.2;omega
 have ho:=Ex.jQ ox
 have bF:∀s,s∈d.body->(Pa.st s).size<150/\Sm.bH [s]<150:=λs hs=>by
  have h1:Pa.de d∈(Pa.st s0).kids:=by rw[uZ];simp[Pa.kids,Sm.targets,Sm.aw,Sm.elems,Sm.decls,Sm.body]
  obtain⟨i,hi⟩:=qX.1 h1;have h2:=nc hi;have h3:=Pa.size_eq (Pa.st s0);have h4:Pa.st s∈(Pa.de d).kids:=by simp[Pa.kids,hs]
  obtain⟨j,hj⟩:=qX.1 h4;have h5:=nc hj;have h6:=Pa.size_eq (Pa.de d);have h7:=Sm.qtF s;omega
 simp[hx.1,hx.2,d0];refine bE (qxX d hd false xs ho hx.1 oM bF S1) ?_;rintro r U1 ⟨rfl,k1⟩;have y1:=qzJ d xs;simp[aL,ZI y1];obtain⟨W1,LY⟩:=eX (U1++[.arr [gB d xs] 8 1]);have j1:bz S1 W1:=by rw[LY];exact k1.push _
 have l1:∀{W},bz W1 W->ab W (ag U1.length) (some 8)=some (gB d xs):=λk=>ldZ y1 (by rw[<-LY];exact k)
 rw[<-LY];have p0:=ld j1;simp[p0];refine bE (qx0 d hd false xs ho hx.1 oM bF W1) ?_;rintro r U2 ⟨rfl,k2⟩;simp[aL,ZI y1];obtain⟨W2,Dn⟩:=eX (U2++[.arr [gB d xs] 8 1]);have j2:bz W1 W2:=by rw[Dn];exact k2.push _
 have m2:ab W2 (ag U2.length) (some 8)=some (gB d xs):=ldZ y1 (by rw[<-Dn];exact Kp.refl _ _);have m1:=l1 j2;rw[<-Dn];refine aZ (Zx W2) ?_;by_cases e1:jd d xs=0
 case neg=>
  simp[e1];exact aQ (r:=rfl)
 obtain⟨h0,hr⟩:=qzI e1;have v1:gB d xs=(Af d xs).v:=ak e1
 have o1:(Af d xs).ok:=by
  unfold Af;split
  .exact qlx h0 hd ho hx.1 oM bF
  .exact qal h0 hd ho hx.1 oM bF
 rw[v1]at m1 m2;simp[e1,m1,m2];refine aZ (qxK _ _ o1 o1 (zh hr).1 (zh hr).1 W2) ?_;simp;exact aQ (r:=rfl)
end Go.Proofs.YtbifpocccfkhhaaGreatDoor
namespace Go.Proofs.YtbifpocccfkhhaaGreatDoor.copyExpands
open Go Go.ChangeShapes Go.WideShapes Go.ChangeAt Go.RowKit
set_option maxRecDepth 100000
theorem own:ownKnob Tryz.prog.godebug=none:=by kernel_rfl
theorem contract(H:Type)(enc:TypeId×Value->H)(W:World)(base:Nat)(args:Array Value)(ds gs:List (DataW H))(before:List MemPlace)
  (cF:∀(j:Nat) t v,Tryz.f5.params[j]?=some t->args[j]?=some v->Value.okWide Tryz.prog W .any base t v)
  (hW:DataW.Whole enc Tryz.prog Tryz.f5.params.toList Rows.copyExpandsSpec.vars false W args.toList ds gs before)
  (Jg:(DataW.weightsEach Tryz.prog (Tryz.f5.params.toList++(OpenSpec.ofChange Rows.copyExpandsSpec).bare.plain.varTypes Tryz.prog) (ds++gs)).all (·<=reachBytes)=true) (hL:laidMetH Tryz.prog Rows.copyExpandsRow.laid W):
  Calls Tryz.prog 5 args W λe W'=>∃v,e=.returned v/\Rows.copyExpandsSpec.post enc Tryz.prog Tryz.f5 false true false false W args v W':=by
 have QE:=hW;obtain⟨p,q,Wb,hV,rfl,hfz,DC⟩:=hW;have hA:DataW.TrodAll enc Tryz.prog W 0 (λ_=>true) true Tryz.f5.params.toList args.toList ds p:=Wb;rw[Tryz.params5]at hA cF Jg;obtain⟨v0,vs0,d0,ds0,p0,q0,iL,kF,h0,Wb⟩:=trodAll_cons hA;obtain⟨v1,vs1,d1,ds1,p1,q1,lR,jb,h1,hA1⟩:=trodAll_cons Wb;obtain⟨zw,hde⟩:=trodAll_nil hA1;have io:ds=[d0,d1]:=by rw[kF,jb,hde]
 have rh:args=#[v0,v1]:=by
  apply HD.1;rw[iL,lR,zw]
 subst io rh;obtain⟨rfl,rfl⟩:=trodVars_none hV;rw[pR]at Jg;obtain⟨a0,o0,r0⟩:=qnC (cF 0 42 v0 rfl rfl) h0 (qeE Jg (i:=0) rfl rfl);obtain⟨a1,o1,r1⟩:=qon (cF 1 23 v1 rfl rfl) h1 (qeE Jg (i:=1) rfl rfl);refine qsJ (qx8 a0 a1 o0 o1.1 o1.2) (SR.start hL) ⟨rfl,λi v u hv hu=>?_⟩ (by kernel_rfl) rfl rfl QE rfl
 match i,hv,hu with
 |0,hv,hu=>cases hv;cases hu;exact r0
 |1,hv,hu=>cases hv;cases hu;exact r1
noncomputable def laidWorld(os:Os):World:=
 let N:=(World.settled Tryz.prog os).heap.size
 let w0:=World.holding Tryz.prog os ⟨#[.cells (#[9,13,1,32,133,101,160,5760,5600,8192,8202,1,8232,8233,1,8239,8287,48,12288,12288,1].map λ(z:Nat)=>Value.int .u16 (z:Int)) 279,.cells #[.slice (some ⟨N,0,none⟩) 7 7,.slice none 0 0,.int .i64 2] 276],#[],[]⟩
 let put (h:Array Obj) (g:Nat) (cs:Array Value):Array Obj:=h.modify g fun
  |.cells _ t frozen=>.cells cs t frozen
  |o=>o
 let h1:=put w0.heap 0 (Lib.asciiSpaceTab.map λz=>Value.int .u8 z).toArray
 let h2:=put h1 1 #[.pointer (some ⟨N+1,0,none⟩)]
 let h3:=put h2 2 (Lib.pow10Tab.map λz=>Value.int .u64 z).toArray
 let h4:=put h3 3 (#[0,1,28,2,29,14,24,3,30,22,20,15,25,17,4,8,31,27,13,23,21,19,16,7,26,12,18,6,11,5,10,9].map λ(z:Nat)=>Value.int .u8 (z:Int))
 let h5:=put h4 4 (#[0,1,56,2,57,49,28,3,61,58,42,50,38,29,17,4,62,47,59,36,45,43,51,22,53,39,33,30,24,18,12,5,63,55,48,27,60,41,37,16,46,35,44,21,52,32,23,11,54,26,40,15,34,20,31,10,25,14,19,9,13,8,7,6].map λ(z:Nat)=>Value.int .u8 (z:Int))
 { w0 with heap:=h5 }
def Tj:Array Value:=#[.agg #[.int .i64 0,.bool false,.int .i64 0,.slice none 0 0,.slice none 0 0,.slice none 0 0,.slice none 0 0],.slice none 0 0]
theorem laid_met(os:Os):laidMet Tryz.prog Rows.copyExpandsRow.laid ((laidWorld os).forCall (λ_ _=>0) ⟨#[],Tj,[]⟩).memory:=
 laidMet_of_run' 10 (by kernel_rfl) (by kernel_rfl)
theorem reads(os:Os){H:Type}(enc:TypeId×Value->H):∃places,DataW.whole enc Tryz.prog ((laidWorld os).forCall (λ_ _=>0) ⟨#[],Tj,[]⟩).memory Tryz.f5.params.toList Rows.copyExpandsSpec.vars false Tj.toList 8=some ([.agg [.lit (.int .i64 0),.lit (.bool false),.lit (.int .i64 0),.nil,.nil,.nil,.nil],.nil],[],places):=
 ⟨[],by kernel_rfl⟩
theorem lifted(os:Os)(started:os.Started)(H:Type)(enc:TypeId×Value->H)(F:Stop.Interp):
  ReturnsInHanded {} Tryz.checked os 5 .any ((OpenSpec.ofChange Rows.copyExpandsSpec).preRow enc Tryz.prog Tryz.f5 Rows.copyExpandsRow.domain false Rows.copyExpandsRow.laid) (((OpenSpec.ofChange Rows.copyExpandsSpec).at F).post enc Tryz.prog Tryz.f5 false true false false):=by
 obtain⟨places,hx⟩:=reads os enc;refine returnsInHanded_of_row (C:=Tryz.checked) (s:=OpenSpec.ofChange Rows.copyExpandsSpec) own started (by kernel_rfl) Tryz.func5
  (witness_row_atRef (enc:=enc) (C:=Tryz.checked) false (laidWorld os) Tj rfl (by kernel_rfl) (by kernel_rfl) (by kernel_rfl)
   (OpenSpec.preRow_of_cond 8 hx (by kernel_rfl) (λk hk=>by cases hk) (by kernel_rfl) (laid_met os))) ?_
 intro W base args ds gs before cF hW _ _ Jg hL _ _;exact contract H enc W base args ds gs before cF hW Jg hL
theorem jh{a b:Bool}(ha:a=true)(hb:b=true):(a&&b)=true:=by rw[ha,hb];rfl
theorem qoq:Rows.copyExpandsRow.wf (OpenSpec.ofChange (OpenSpec.ofChange Rows.copyExpandsSpec).bare)=true:=by kernel_rfl
theorem qoC:laidOutB Tryz.prog=true:=by kernel_rfl
theorem qoN:mapsRowed Tryz.prog=true:=by kernel_rfl
theorem qoR:Tryz.f5.params.all (Tryz.prog.readableRec ·)=true:=by kernel_rfl
theorem qoS:namedTie Tryz.prog Rows.copyExpandsRow.named (OpenSpec.ofChange Rows.copyExpandsSpec).bare.vars=true:=by kernel_rfl
theorem qoT:(Rows.copyExpandsRow.stops==[])=true:=by kernel_rfl
theorem qoU:(Tryz.prog.stops==[])=true:=by kernel_rfl
theorem qoV:(Rows.copyExpandsRow.knobs==[])=true:=by kernel_rfl
theorem qoW:(Tryz.prog.stopKnobs==[])=true:=by kernel_rfl
theorem qor:(Rows.copyExpandsRow.inPlace==Tryz.prog.inPlace 5)=true:=by kernel_rfl
theorem qot:(Rows.copyExpandsRow.unfollowed==Tryz.prog.unfollowed 5)=true:=by kernel_rfl
theorem qou:(Rows.copyExpandsRow.recurses==Tryz.prog.recurses 5)=true:=by kernel_rfl
theorem qov:(Rows.copyExpandsRow.named==Tryz.prog.varsNamed 5)=true:=by kernel_rfl
theorem qow:(Rows.copyExpandsRow.maps==(Tryz.f5.params.toList++(OpenSpec.ofChange Rows.copyExpandsSpec).bare.plain.varTypes Tryz.prog).any (Tryz.prog.mapsRec ·))=true:=by kernel_rfl
theorem qox:(Rows.copyExpandsRow.ifaces==(Tryz.f5.params.toList++(OpenSpec.ofChange Rows.copyExpandsSpec).bare.plain.varTypes Tryz.prog).any (Tryz.prog.ifacesRec ·))=true:=by kernel_rfl
theorem qoy:(Rows.copyExpandsRow.mapsOut==Tryz.prog.mapsAmong Tryz.f5.resultTypes.toList)=true:=by kernel_rfl
theorem qoz:(Rows.copyExpandsRow.loops==(Tryz.f5.params.toList++(OpenSpec.ofChange Rows.copyExpandsSpec).bare.plain.varTypes Tryz.prog).any (Tryz.prog.loopsFrom ·))=true:=by kernel_rfl
theorem qoA:(Rows.copyExpandsRow.wideKeys==((Tryz.f5.params.toList++(OpenSpec.ofChange Rows.copyExpandsSpec).bare.plain.varTypes Tryz.prog)++Tryz.f5.resultTypes.toList).any (Tryz.prog.wideKeysFrom ·))=true:=by kernel_rfl
theorem qoB:(OpenSpec.ofChange Rows.copyExpandsSpec).bare.vars.all (Tryz.prog.varReadable ·)=true:=by kernel_rfl
theorem qoD:Tryz.f5.resultTypes.all (λt=>Tryz.prog.readableRec t&&decide (t<Tryz.prog.types.size))=true:=by kernel_rfl
theorem qoE:(Rows.copyExpandsRow.ifacesOut==Tryz.f5.resultTypes.toList.any (Tryz.prog.ifacesRec ·))=true:=by kernel_rfl
theorem qoF:(Rows.copyExpandsRow.loopsOut==Tryz.f5.resultTypes.toList.any (Tryz.prog.loopsFrom ·))=true:=by kernel_rfl
theorem qoG:(Rows.copyExpandsRow.plainKeys==Tryz.prog.plainKeys)=true:=by kernel_rfl
theorem qoH:Rows.copyExpandsRow.shortTexts.isNone=true:=by kernel_rfl
theorem qoI:Tryz.prog.stopsHeard=true:=by kernel_rfl
theorem qoJ:Tryz.prog.mayEnter=true:=by kernel_rfl
theorem qoK:(Rows.copyExpandsRow.lifted==Tryz.prog.liftsFinal)=true:=by kernel_rfl
theorem qoL:(Tryz.prog.make==some Rows.copyExpandsRow.make)=true:=by kernel_rfl
theorem qoM:(Rows.copyExpandsRow.kinds==(if Rows.copyExpandsRow.domain.isEmpty then [] else Tryz.f5.params.toList.map λt=>match Tryz.prog.underlying t with|some (.int k)=>some k|_=>none))=true:=by kernel_rfl
theorem qoO:(Rows.copyExpandsRow.pinned==Rows.copyExpandsRow.pinnedBy)=true:=by kernel_rfl
theorem qoP:(Rows.copyExpandsRow.veiled==((Tryz.f5.params.toList++(OpenSpec.ofChange Rows.copyExpandsSpec).bare.plain.varTypes Tryz.prog)++Tryz.f5.resultTypes.toList).any (Tryz.prog.veiledRec ·))=true:=by kernel_rfl
theorem qoQ:Rows.copyExpandsRow.veiledFits Tryz.prog Tryz.f5.params.toList ((Tryz.f5.params.toList++(OpenSpec.ofChange Rows.copyExpandsSpec).bare.plain.varTypes Tryz.prog)++Tryz.f5.resultTypes.toList)=true:=by kernel_rfl
theorem facts:joinedFacts Tryz.pinned.checked.prog 5 Tryz.f5 (OpenSpec.ofChange Rows.copyExpandsSpec).bare Rows.copyExpandsRow=true:=(jh (jh (jh (jh (jh (jh (jh (jh (jh (jh (jh (jh (jh (jh (jh (jh (jh (jh (jh (jh (jh (jh (jh (jh (jh (jh (jh (jh (jh (jh (jh qoq qoC) qoN) qoR) qoS) qoT) qoU) qoV) qoW) qor) qot) qou) qov) qow) qox) qoy) qoz) qoA) qoB) qoD) qoE) qoF) qoG) qoH) qoI) qoJ) qoK) qoL) qoM) qoO) qoP) qoQ)
theorem name5:Tryz.pinned.checked.prog.funcNamed Rows.copyExpandsRow.func=some 5:=by kernel_rfl
theorem qsf:Tryz.f5.isInstance Tryz.pinned.checked.prog Rows.copyExpandsRow.origin Rows.copyExpandsRow.targs:=of_decide_eq_true (by kernel_rfl)
theorem qzu:Tryz.f5.isWrapper Tryz.pinned.checked.prog Rows.copyExpandsRow.wrapper Rows.copyExpandsRow.mainSum:=by unfold Func.isWrapper;first|(rw[ak (by decide+kernel)];kernel_rfl)|(rw[au (by decide+kernel)];exact⟨rfl,rfl⟩)
theorem said:Rows.CopyExpandsSaid:=
 OpenClaim.holds_of_cond 5 Tryz.f5 rfl rfl rfl rfl rfl rfl rfl ⟨rfl,rfl,rfl,rfl,rfl⟩ rfl rfl rfl rfl rfl name5 Tryz.func5 facts qsf qzu
  (λos started H enc _ F=>by rw[OpenClaim.pre_eq_preRow];exact lifted os started H enc F)
theorem qtb:false=Tryz.pinned.checked.prog.looks []:=by kernel_rfl
theorem qyv:Tryz.prog.wantsStandIn 23=false:=by kernel_rfl
theorem qyw:Tryz.prog.wantsStandIn 42=false:=by kernel_rfl
theorem qtB : Tryz.prog.funcNamed "manorboy/manorboylaw09.CopyExpands" = some 5 := by kernel_rfl
theorem plain (f : FuncId) (fn : Func) (hf : Tryz.pinned.checked.prog.funcNamed "manorboy/manorboylaw09.CopyExpands" = some f) (si : Tryz.pinned.checked.prog.funcs[f]? = some fn) :
  false=Tryz.pinned.checked.prog.looks []/\∀(j:Nat) t,fn.params[j]?=some t->Tryz.pinned.checked.prog.wantsStandIn t=false:=by
 obtain rfl:f=5:=Option.some.inj (qtB.symm.trans hf) |>.symm;obtain rfl:fn=Tryz.f5:=(Option.some.inj (Tryz.func5.symm.trans si)).symm;refine⟨qtb,λj t ht=>?_⟩;rw[Tryz.params5]at ht;have:t=42\/t=23:=by simpa using Array.mem_of_getElem? ht
 rcases this with rfl|rfl
 .exact qyw
 .exact qyv
theorem qzf:Rows.copyExpandsRow.wfByText (OpenSpec.ofChange Rows.copyExpandsSpec)=true:=by kernel_rfl
theorem qtg:Tryz.pinned.checked.prog.mainIs=some (Rows.copyExpandsCard.stood.harness.1,Rows.copyExpandsCard.stood.harness.2.toList):=by kernel_rfl
theorem qpM:false=Rows.copyExpandsRow.goesBy Tryz.pinned.checked.prog:=by kernel_rfl
theorem card:Rows.CopyExpandsCardSaid:=
 Claim7.holds_tied_plain_at .later [] _ _ _ _ said (λ_ h=>by cases h) qzf (λ_ h=>by cases h) copyExpands_row_tie rfl ⟨rfl,rfl⟩ qtg rfl plain qpM
end Go.Proofs.YtbifpocccfkhhaaGreatDoor.copyExpands
namespace Go.Proofs.YtbifpocccfkhhaaGreatDoor
theorem copyExpands_holds:Rows.CopyExpandsCardSaid:=copyExpands.card
end Go.Proofs.YtbifpocccfkhhaaGreatDoor
end
