/- A part. -/
import Derived.Test.YtbifpocccfkhhaaGreatDoorYg
set_option linter.all false
noncomputable section
namespace Go.Proofs.YtbifpocccfkhhaaGreatDoor
open Go Go.Proofs.Tryz
def qhg{l:List Sm}(h:0<l.length):Sm.tO l=decide (l[0].kind≠4/\l[0].kind≠5):=by
 cases l with
 |nil=>simp at h
 |cons x l=>rfl
theorem qtx:aH ⟨⟨[]⟩⟩=false:=rfl
def Bg{l:List Sm}(h:0<l.length)(b:Bool)(S:St):gP S 8 (.sl b (l.map Sm.v)) 0=some (.cq (Sm.v l[0]) 0):=yv (i:=0) h b S
def Sm.nN(nm:Bz->Bool)(s:Sm)(a0 b0 a1 b1 a2 b2 a3 b3 a4 b4:Int)(n:Bool):Prop:=
 s.bp nm=(jv a0 b0 s.targets.length&&jv a1 b1 s.aw.length&&jv a2 b2 s.elems.length&&jv a3 b3 s.decls.length&&jv a4 b4 s.body.length&&(if n then nm s.text else iV s.text)&&s.labels.all nm&&s.targets.all Ex.mE&&(decide (s.kind≠4)||Sm.tO s.body))
def VO(n:Nat):jv 0 0 n=decide (n=0)/\jv 1 1 n=decide (n=1)/\jv 1 (-1) n=decide (1<=n)/\jv 1 2 n=decide (1<=n/\n<=2)/\jv 0 8 n=decide (n<=8)/\jv 2 8 n=decide (2<=n/\n<=8):=by
 unfold jv;refine⟨?_,?_,?_,?_,?_,?_⟩<;>rw[eR]<;>simp<;>omega
def Sm.own(nm:Bz->Bool)(s:Sm):(s.kind=1->s.nN nm 0 0 0 0 0 0 0 0 0 0 false)/\(s.kind=2->s.nN nm 1 (-1) 1 1 0 0 0 0 0 0 false)/\(s.kind=3->s.nN nm 0 0 1 1 0 0 0 0 0 0 false)/\(s.kind=4->s.nN nm 0 0 1 1 0 0 0 0 1 2 false)/\
  (s.kind=5->s.nN nm 1 1 0 0 1 (-1) 0 0 1 1 false)/\(s.kind=6->s.nN nm 0 0 0 8 0 0 0 0 0 0 true)/\(s.kind=7->s.nN nm 0 0 0 0 0 0 1 (-1) 1 (-1) false)/\(s.kind=8->s.nN nm 0 0 0 0 0 0 0 0 1 (-1) false)/\(¬(1<=s.kind/\s.kind<=8)->s.bp nm=false):=by
 cases s with
 |mk l k t g e f d b=>
 refine⟨?_,?_,?_,?_,?_,?_,?_,?_,λh=>?_⟩
 case refine_9=>
  simp only[Sm.kind]at h;simp only[Sm.bp,au (show ¬k=1 by omega),au (show ¬k=2 by omega),au (show ¬k=3 by omega),au (show ¬k=4 by omega),au (show ¬k=5 by omega),au (show ¬k=6 by omega),au (show ¬k=7 by omega),au (show ¬k=8 by omega),Bool.and_false]
 all_goals
  intro h
  simp only[Sm.kind]at h
  subst h
  simp[Sm.nN,Sm.bp,Sm.targets,Sm.aw,Sm.elems,Sm.decls,Sm.body,Sm.text,Sm.labels,Sm.kind,VO]
  ac_rfl
def Py(s:Sm)(E:ae)(U:St):Prop:=∃(a0 b0 a1 b1 a2 b2 a3 b3 a4 b4:Int) (n:Bool),s.nN aH a0 b0 a1 b1 a2 b2 a3 b3 a4 b4 n/\(s.kind=4->a4=1/\b4=2)/\E.get 1=some (ag 0)/\E.get 3=some (ag 1)/\E.get 4=some (ag 2)/\E.get 5=some (ag 3)/\E.get 6=some (ag 4)/\E.get 7=some (ag 5)/\E.get 8=some (.bool n)/\
 U=[.arr [s.v] 8 1,.arr [.agg [af a0,af b0]] 2 1,.arr [.agg [af a1,af b1]] 2 1,.arr [.agg [af a2,af b2]] 2 1,.arr [.agg [af a3,af b3]] 2 1,.arr [.agg [af a4,af b4]] 2 1]
def Py.mk{s:Sm}{E:ae}{a0 b0 a1 b1 a2 b2 a3 b3 a4 b4:Int}{n:Bool}(h:s.nN aH a0 b0 a1 b1 a2 b2 a3 b3 a4 b4 n)(h4:s.kind=4->a4=1/\b4=2)(hE:E.get 1=some (ag 0)/\E.get 3=some (ag 1)/\E.get 4=some (ag 2)/\E.get 5=some (ag 3)/\E.get 6=some (ag 4)/\E.get 7=some (ag 5)/\E.get 8=some (.bool n)):
  Py s E [.arr [s.v] 8 1,.arr [.agg [af a0,af b0]] 2 1,.arr [.agg [af a1,af b1]] 2 1,.arr [.agg [af a2,af b2]] 2 1,.arr [.agg [af a3,af b3]] 2 1,.arr [.agg [af a4,af b4]] 2 1]:=
 let ⟨c,d,e,f,g,i,j⟩:=hE
 ⟨_,_,_,_,_,_,_,_,_,_,_,h,h4,c,d,e,f,g,i,j,rfl⟩
def qxo(s:Sm)(hs:s.ok):∀S,Fn prog 183 [s.v] S (.bool (s.bp aH)):=by
 refine Pu.ib qbf ?_;have hO:=(Sm.fh s).1 hs;obtain⟨w1,w2,w3,w4,w5,w6,w7,w8,w9⟩:=Sm.own aH s;simp only[qbf,fW];refine HS (Py s) ?_ ?_
 .have hc:s.kind=1\/s.kind=2\/s.kind=3\/s.kind=4\/s.kind=5\/s.kind=6\/s.kind=7\/s.kind=8\/¬(1<=s.kind/\s.kind<=8):=oM;rcases hc with h|h|h|h|h|h|h|h| h
  case inr.inr.inr.inr.inr.inr.inr.inr=>
   simp[aL,ab,show s.kind≠1 by omega,show s.kind≠2 by omega,show s.kind≠3 by omega,show s.kind≠4 by omega,show s.kind≠5 by omega,show s.kind≠6 by omega,show s.kind≠7 by omega,show s.kind≠8 by omega];exact aQ (r:=by rw[w9 h];rfl)
  all_goals
   simp[aL,ab,aI,aU,BO,dL,bP,bR,h]
   exact Py.mk (by first|exact w1 h|exact w2 h|exact w3 h|exact w4 h|exact w5 h|exact w6 h|exact w7 h|exact w8 h) (by simp[h]) sM
 clear w1 w2 w3 w4 w5 w6 w7 w8 w9;rintro E U ⟨a0,b0,a1,b1,a2,b2,a3,b3,a4,b4,n,he,h4,g1,g3,g4,g5,g6,g7,g8,rfl⟩;unfold Sm.nN at he;rw[he];simp[g1,g3,ab,dL];refine aZ (BF _ _ _ _) ?_;cases jv a0 b0 s.targets.length
 case false=>simp;exact aQ (r:=by simp[aY])
 simp[g1,g4,ab,dL];refine aZ (BF _ _ _ _) ?_;cases jv a1 b1 s.aw.length
 case false=>simp;exact aQ (r:=by simp[aY])
 simp[g1,g5,ab,dL];refine aZ (BF _ _ _ _) ?_;cases jv a2 b2 s.elems.length
 case false=>simp;exact aQ (r:=by simp[aY])
 simp[g1,g6,ab,dL];refine aZ (BF _ _ _ _) ?_;cases jv a3 b3 s.decls.length
 case false=>simp;exact aQ (r:=by simp[aY])
 simp[g1,g7,ab,dL];refine aZ (BF _ _ _ _) ?_;cases f4:jv a4 b4 s.body.length
 case false=>simp;exact aQ (r:=by simp[aY])
 by_cases ht:s.text=⟨⟨[]⟩⟩<;>cases n
 case pos.true=>
  simp[g1,g8,ab,gj,fH,ht];exact aQ (r:=by simp[aY,qtx])
 case neg.false=>
  simp[g1,g8,ab,gj,fH,ht];exact aQ (r:=by simp[aY,qhh ht])
 case' neg.true=>
  simp[g1,g8,ab,gj,fH,ht];refine aZ (S7 _ _) ?_;cases aH s.text
  case false=>simp;exact aQ (r:=by simp[aY])
 case' pos.false=>rw[Ee ht]
 all_goals
  simp[g1,g8,ab,gj,fH,ht]
  refine aZ (qkv _ hO.labels.1 _) ?_
  cases s.labels.all aH
  case false=>simp;exact aQ (r:=by simp[aY])
  simp[g1,ab]
  refine aZ (qxC _ hO.targets.1 _) ?_
  cases s.targets.all Ex.mE
  case false=>simp;exact aQ (r:=by simp[aY])
  by_cases hk:s.kind=4
  case neg=>
   simp[g1,ab,hk];exact aQ (r:=by simp[aY])
  obtain⟨rfl,rfl⟩:=h4 hk
  have hb:0<s.body.length:=by rw[(VO _).2.2.2.1]at f4;simp at f4;omega
  rw[qhg hb]
  by_cases k4:s.body[0].kind=4
  case pos=>
   simp[g1,ab,Bg hb,hk,k4];exact aQ (r:=by simp[aY])
  by_cases k5:s.body[0].kind=5<;>simp[g1,ab,Bg hb,hk,k4,k5]<;>exact aQ (r:=by simp[aY])
def De.nN(nm:Bz->Bool)(d:De)(a0 b0 a1 b1 a2 b2 a3 b3:Int)(n:Bool):Prop:=
 d.bp nm=(jv a0 b0 d.names.length&&jv a1 b1 d.aw.length&&jv a2 b2 d.body.length&&jv a3 b3 d.aj.length&&d.names.all nm&&(!d.own||n)&&(!n||decide (1<=d.type/\d.type<=3))&&(decide (d.kind≠3)||decide (d.type=0))&&decide (0<=d.type/\d.type<=3)&&(decide (d.kind≠2)||decide (d.aw.length%2=0))&&fi nm d.aj [])
def De.quf(nm:Bz->Bool)(d:De):(d.kind=1->d.nN nm 1 (-1) 0 0 0 0 0 0 true)/\(d.kind=2->d.nN nm 1 (-1) 2 8 0 0 0 0 true)/\(d.kind=3->d.nN nm 1 1 1 (-1) 0 0 0 0 false)/\(d.kind=4->d.nN nm 1 1 0 0 1 1 0 8 false)/\(¬(1<=d.kind/\d.kind<=4)->d.bp nm=false):=by
 cases d with
 |mk k o t n e f b=>
 refine⟨?_,?_,?_,?_,λh=>?_⟩
 case refine_5=>
  simp only[De.kind]at h;simp only[De.bp,au (show ¬k=1 by omega),au (show ¬k=2 by omega),au (show ¬k=3 by omega),au (show ¬k=4 by omega),Bool.and_false]
 all_goals
  intro h
  simp only[De.kind]at h
  subst h
  rw[De.nN,eR]
  simp only[De.bp,De.names,De.aw,De.aj,De.body,De.own,De.type,De.kind,VO]
  cases f<;>simp[fi]<;>grind
theorem Yq(n:Nat):Int.tmod (n:Int) 2=((n%2:Nat):Int):=rfl
def Px(s:De)(E:ae)(U:St):Prop:=∃(a0 b0 a1 b1 a2 b2 a3 b3:Int) (n:Bool),s.nN aH a0 b0 a1 b1 a2 b2 a3 b3 n/\E.get 1=some (ag 0)/\E.get 3=some (ag 1)/\E.get 4=some (ag 2)/\E.get 5=some (ag 3)/\E.get 6=some (ag 4)/\E.get 7=some (.bool n)/\E.get 8=some (.bool n)/\
 U=[.arr [s.v] 7 1,.arr [.agg [af a0,af b0]] 2 1,.arr [.agg [af a1,af b1]] 2 1,.arr [.agg [af a2,af b2]] 2 1,.arr [.agg [af a3,af b3]] 2 1]
def Px.mk{s:De}{E:ae}{a0 b0 a1 b1 a2 b2 a3 b3:Int}{n:Bool}(h:s.nN aH a0 b0 a1 b1 a2 b2 a3 b3 n)(hE:E.get 1=some (ag 0)/\E.get 3=some (ag 1)/\E.get 4=some (ag 2)/\E.get 5=some (ag 3)/\E.get 6=some (ag 4)/\E.get 7=some (.bool n)/\E.get 8=some (.bool n)):
  Px s E [.arr [s.v] 7 1,.arr [.agg [af a0,af b0]] 2 1,.arr [.agg [af a1,af b1]] 2 1,.arr [.agg [af a2,af b2]] 2 1,.arr [.agg [af a3,af b3]] 2 1]:=
 let ⟨c,d,e,f,g,i,j⟩:=hE
 ⟨_,_,_,_,_,_,_,_,_,h,c,d,e,f,g,i,j,rfl⟩
def qxn(d:De)(hs:d.ok):∀S,Fn prog 182 [d.v] S (.bool (d.bp aH)):=by
 refine Pu.ib qbe ?_;have hO:=(De.fh d).1 hs;obtain⟨w1,w2,w3,w4,w9⟩:=De.quf aH d;simp only[qbe,fW];refine HS (Px d) ?_ ?_
 .have hc:d.kind=1\/d.kind=2\/d.kind=3\/d.kind=4\/¬(1<=d.kind/\d.kind<=4):=oM;rcases hc with h|h|h|h| h
  case inr.inr.inr.inr=>
   simp[aL,ab,aI,aU,BO,dL,bP,bR,show d.kind≠1 by omega,show d.kind≠2 by omega,show d.kind≠3 by omega,show d.kind≠4 by omega];exact aQ (r:=by rw[w9 h];rfl)
  all_goals
   simp[aL,ab,aI,aU,BO,dL,bP,bR,h]
   exact Px.mk (by first|exact w1 h|exact w2 h|exact w3 h|exact w4 h) sM
 clear w1 w2 w3 w4 w9;rintro E U ⟨a0,b0,a1,b1,a2,b2,a3,b3,n,he,g1,g3,g4,g5,g6,g7,g8,rfl⟩;unfold De.nN at he;rw[he];simp[g1,g3,ab,dL];refine aZ (BF _ _ _ _) ?_;cases jv a0 b0 d.names.length
 case false=>simp;exact aQ (r:=by simp[aY])
 simp[g1,g4,ab,dL];refine aZ (BF _ _ _ _) ?_;cases jv a1 b1 d.aw.length
 case false=>simp;exact aQ (r:=by simp[aY])
 simp[g1,g5,ab,dL];refine aZ (BF _ _ _ _) ?_;cases jv a2 b2 d.body.length
 case false=>simp;exact aQ (r:=by simp[aY])
 simp[g1,g6,ab,dL];refine aZ (BF _ _ _ _) ?_;cases jv a3 b3 d.aj.length
 case false=>simp;exact aQ (r:=by simp[aY])
 simp[g1,ab];refine aZ (qkv _ hO.names.1 _) ?_;cases d.names.all aH
 case false=>simp;exact aQ (r:=by simp[aY])
 cases ho:d.own<;>cases n
 case true.false=>
  simp[g1,g7,g8,ab,ho];exact aQ (r:=by simp[aY])
 case' false.true|true.true=>
  simp[g1,g7,g8,ab,ho];refine aZ (BE _ _ _ _) ?_;by_cases ht:1<=d.type/\d.type<=3
  case neg=>
   rw[zR ht];simp;exact aQ (r:=by simp[aY])
  rw[Bw ht]
 all_goals
  rcases(by omega:d.kind=3/\d.type≠0\/d.kind=3/\d.type=0\/d.kind≠3) with k3|k3|k3
  case inl=>
   simp[g1,g7,ab,ho,k3];exact aQ (r:=by simp[aY])
 all_goals
  simp[g1,g7,ab,ho,k3]
  refine aZ (BE _ _ _ _) ?_
 all_goals
  by_cases h5:0<=d.type/\d.type<=3
  case neg=>first
   |omega
   |rw[zR h5]
    simp
    exact aQ (r:=by simp[aY,h5])
  rcases(by omega:d.kind=2/\d.aw.length%2≠0\/d.kind=2/\d.aw.length%2=0\/d.kind≠2) with k2|k2|k2
  case inl=>first
   |omega
   |simp[g1,ab,Yq,k2,h5,show ¬((d.aw.length:Int)%2=0) by omega]
    exact aQ (r:=by simp[aY])
 all_goals first
  |omega
  |simp[g1,ab,Yq,k2,h5,show(d.aw.length:Int)%2=0 by omega]
   refine aZ (qkw _ hO.aj.1 _) ?_
   simp
   exact aQ (r:=by simp[aY,h5])
  |simp[g1,ab,k2,k3,h5]
   refine aZ (qkw _ hO.aj.1 _) ?_
   simp
   exact aQ (r:=by simp[aY,h5])
structure VJ(p:Pa)(U:St):Prop where
 t2:U[1]?=some (.arr [.bool false] 1 1)
 k:U[2]?=some (.arr [p.v] 25 1)
def VJ.push{p:Pa}{U:St}(h:VJ p U)(o:Ob):VJ p (U++[o]):=⟨gp h.t2,gp h.k⟩
def VJ.set{p:Pa}{U:St}(h:VJ p U){L:Nat}(o:Ob)(hL:3<=L):VJ p (U.set L o):=⟨gs h.t2 oM,gs h.k oM⟩
def VV(p:Pa)(i:Nat):Prop:=∀q,q∈p.kids.take i->q.valid aH=true
def VD(p:Pa)(U:St):Prop:=U[1]?=some (.arr [.bool false] 1 1)/\p.valid aH=false
def VD.push{p:Pa}{U:St}(h:VD p U)(o:Ob):VD p (U++[o]):=⟨gp h.1,h.2⟩
def ae.Jm{e:ae}{t:Nat}{v:V}:∀{ts:List Nat},t∈ts->e.get t=some v->(e.keep ts).get t=some v
 |[],h,_=>by simp at h
 |s::ts,h,hv=>by
  simp only[ae.keep];by_cases hs:s=t
  .subst hs;rw[hv];simp[ae.get]
  .have h':t∈ts:=by
    rcases dU.1 h with h| h
    .exact absurd h.symm hs
    .exact h
   split
   .simp only[ae.get,au hs];exact ae.Jm h' hv
   .exact ae.Jm h' hv
noncomputable def ZU:C':=(.seq (.k [.j 29 25 1,.c 30 179 29]
 (.block 1 (.rf (.t 30) [31] (fK Tryz.f151 0).1 (fK Tryz.f151 0).2
  (.reg [.o 4 (.new zP),
   .s 25 4 31])
  (.block 2 (.k [.j 32 25 4,.c 33 151 32,.o 34 (.un .not (.t 33))]
   (.d 34 (.k [.n (.oV 1 (.t 2) (.c (.bool false)))] (.ret)) (.skip))))
  35 [31,4,32,33,34,2])))
 (.k [.n (.oV 1 (.t 2) (.c (.bool true)))] (.ret)))
theorem Ta:ZU=(.seq (.k [.j 29 25 1,.c 30 179 29]
 (.block 1 (.rf (.t 30) [31] (fK Tryz.f151 0).1 (fK Tryz.f151 0).2
  (.reg [.o 4 (.new zP),
   .s 25 4 31])
  (.block 2 (.k [.j 32 25 4,.c 33 151 32,.o 34 (.un .not (.t 33))]
   (.d 34 (.k [.n (.oV 1 (.t 2) (.c (.bool false)))] (.ret)) (.skip))))
  35 [31,4,32,33,34,2])))
 (.k [.n (.oV 1 (.t 2) (.c (.bool true)))] (.ret))):=rfl
def qw8:∀(k:Nat) (p:Pa),p.wt<=k->p.ok->∀S,Fn prog 151 [p.v] S (.bool (p.valid aH)):=by
 intro k
 induction k with
 |zero=>intro p h;exfalso;cases p with
  |st s=>cases s;simp[Pa.wt]at h
  |de s=>cases s;simp[Pa.wt]at h
  |el s=>cases s;simp[Pa.wt]at h
  |ex s=>cases s;simp[Pa.wt]at h
 |succ k ih=>
  intro p hw hp;refine Pu.ib ⟨_,func151,ok151⟩ ?_;have zw:=Pa.valid_eq aH p;have range:∀e:ae,p.bp aH=true->e.get 1=some (.ptr 0 0 0 1)->e.get 2=some (.ptr 1 0 0 1)->
    WP prog ZU
     (eN [.cell 2 none] 0 λv U=>v=.bool (p.valid aH)/\U=[]) e [.arr [p.v] 25 1,.arr [.bool false] 1 1]:=by
   intro e dW g1 g2;simp only[ZU];simp[g1,ab];refine bE (qks p _) ?_;rintro v U ⟨rfl,rfl⟩;simp;have mz:(p.kids.map λq=>[q.v]).length=p.kids.length:=sM;refine qcW (k:=202) (fs:=[]) (cs:=[.ptr 2 0 0 1]) sM (qly p hp 2) rfl rfl rfl sM (λx=>x=1) (by rintro x rfl;simp)
    (λi U=>VJ p U/\VV p i) (VD p) (λ_ _=>False) ?_ ?_ ?_ ?_ (λi U L o o' _ h hl=>⟨⟨gl h.1.t2 sM hl,gl h.1.k sM hl⟩,h.2⟩) (λU L o o' _ h hl=>⟨gl h.1 sM hl,h.2⟩) (λid U L o o' _ h hl=>h.elim) ?_ ?_ ?_ ?_ ?_
   .rintro i U ⟨h,_⟩;exact h.k
   .rintro i U ⟨h,h1⟩;exactλo=>⟨h.push o,h1⟩
   .rintro U h;exactλo=>h.push o
   .rintro id U h;exact h.elim
   .exact⟨⟨rfl,rfl⟩,λq hq=>by simp at hq⟩
   .rintro i av qa U ⟨hj,hv⟩ hk hl;rw[dS]at qa;obtain⟨q,hq,rfl⟩:=ep.1 qa;have Jb:q∈p.kids:=dZ hq;have hqw:=Pa.zG Jb;generalize A3:ae.keep _ _=ke at hl |-;have g2':ke.get 2=some (.ptr 1 0 0 1):=by rw[<-A3];exact ae.Jm sM (by simp[g2])
    clear A3;simp at hl;simp[vB,aL,aI,aU];refine PQ (gp hl) rfl ?_;have lU:=aR hl;have nU:U.length≠3:=oM;have vq:((U++[Ob.arr [q.v] 25 1]).set 3 (.loop { st:=.busy,dM:=none,ps:=[31],cV:=(fK Tryz.f151 0).1,body:=(fK Tryz.f151 0).2,e:=ke,N:=35 }))[U.length]?=some (.arr [q.v] 25 1):=gs sM nU;have vL:((U++[Ob.arr [q.v] 25 1]).set 3 (.loop { st:=.busy,dM:=none,ps:=[31],cV:=(fK Tryz.f151 0).1,body:=(fK Tryz.f151 0).2,e:=ke,N:=35 }))[3]?=some (.loop _):=bO (by simp;omega);have vj:=(hj.push (Ob.arr [q.v] 25 1)).set (L:=3) (.loop { st:=.busy,dM:=none,ps:=[31],cV:=(fK Tryz.f151 0).1,body:=(fK Tryz.f151 0).2,e:=ke,N:=35 }) oM;have vk:Kp (λx=>x=1\/x=3) U ((U++[Ob.arr [q.v] 25 1]).set 3 (.loop { st:=.busy,dM:=none,ps:=[31],cV:=(fK Tryz.f151 0).1,body:=(fK Tryz.f151 0).2,e:=ke,N:=35 })):=((Kp.refl _ _).push _).set _ (.inl (.inr rfl));generalize (U++[Ob.arr [q.v] 25 1]).set 3 _=W at vq vL vj vk |-;simp[ab,vq];refine aZ (ih q oM (Pa.GG hp Jb) W) ?_
    cases Xg:q.valid aH with
    |true=>
     simp;refine qjE ⟨rfl,rfl⟩ (.inr rfl) vL vk ⟨vj.set _ oM,?_⟩;intro r hr;rw[dN,hq]at hr;rcases cU.1 hr with hr|hr
     .exact hv r hr
     .simp at hr;subst hr;exact Xg
    |false=>
     simp[aI,pM,vj.t2,g2'];refine qjF (.inr rfl) (gs vL oM) (vk.set _ (.inl (.inl rfl))) ⟨gs (bO (aR vj.t2)) oM,?_⟩
     cases hh:p.valid aH with
     |false=>rfl
     |true=>rw[(Pa.gU.1 hh).2 q Jb]at Xg;cases Xg
   .rintro U ⟨hj,hv⟩ hk;rw[mz]at hv;unfold VV at hv;rw[gu]at hv;simp[aI,pM,hj.t2,g2];refine fB (vs:=[.bool true]) (by simp[ab,g2,aR hj.t2]) ?_ rfl;rw[Pa.gU.2 ⟨dW,hv⟩];rfl
   .rintro U ⟨h1,h2⟩ hk;simp;refine fB (vs:=[.bool false]) (by simp[ab,g2,h1]) ?_ rfl;rw[h2];rfl
   .rintro id U h;exact h.elim
  have stop:p.bp aH=false->p.valid aH=false:=λh=>by rw[zw,h];rfl
  cases p with
  |st s=>
   have dW:(Pa.st s).bp aH=s.bp aH:=rfl;simp only[c151,<-Ta];simp[aL,ab];simp only[Pa.v,Pa.kind,Pa.toS,Pa.lH,Pa.nB,Pa.nE];simp[ab];refine aZ (qxo s hp _) ?_
   cases ho:s.bp aH with
   |false=>
    simp[aI,pM];refine fB rfl ?_ rfl;rw[stop (by rw[dW,ho])];rfl
   |true=>
    simp[dW,ho];exact range _ (dW.trans ho) sM sM
  |de d=>
   have dW:(Pa.de d).bp aH=d.bp aH:=rfl;simp only[c151,<-Ta];simp[aL,ab];simp only[Pa.v,Pa.kind,Pa.toS,Pa.lH,Pa.nB,Pa.nE];simp[ab];refine aZ (qxn d hp _) ?_
   cases ho:d.bp aH with
   |false=>
    simp[aI,pM];refine fB rfl ?_ rfl;rw[stop (by rw[dW,ho])];rfl
   |true=>
    simp[dW,ho];exact range _ (dW.trans ho) sM sM
  |el e=>
   have dW:(Pa.el e).bp aH=e.bp:=rfl;simp only[c151,<-Ta];simp[aL,ab];simp only[Pa.v,Pa.kind,Pa.toS,Pa.lH,Pa.nB,Pa.nE];simp[ab];refine aZ (qxm e _) ?_
   cases ho:e.bp with
   |false=>
    simp[aI,pM];refine fB rfl ?_ rfl;rw[stop (by rw[dW,ho])];rfl
   |true=>
    simp[dW,ho];exact range _ (dW.trans ho) sM sM
  |ex x=>
   have dW:(Pa.ex x).bp aH=x.bp aH:=rfl;simp only[c151,<-Ta];simp[aL,ab];simp only[Pa.v,Pa.kind,Pa.toS,Pa.lH,Pa.nB,Pa.nE];simp[ab];refine aZ (qxl x hp _) ?_
   cases ho:x.bp aH with
   |false=>
    simp[aI,pM];refine fB rfl ?_ rfl;rw[stop (by rw[dW,ho])];rfl
   |true=>
    simp[dW,ho];exact range _ (dW.trans ho) sM sM
def Zn(p:Pa)(hp:p.ok):∀S,Fn prog 100 [p.v] S (af (p.err aH)):=by
 refine Pu.ib qar ?_;simp[qar,aL,ab];refine bE (qw7 p hp _) ?_;rintro v U ⟨⟨z,d,rfl,_⟩,rfl⟩;unfold Pa.err;by_cases hf:p.fits
 .simp[hf,ab];refine aZ (qw8 _ p cz hp _) ?_
  cases hv:p.valid aH with
  |true=>
   simp;exact aQ (r:=rfl)
  |false=>
   simp;exact aQ (r:=rfl)
 .simp[hf,ab];exact aQ (r:=rfl)
def qya(s:Sm)(hs:s.ok):∀S,Fn prog 56 [s.v] S (af ((Pa.st s).err aH)):=by
 refine Pu.ib C56 ?_;simp[C56,aL,ab];refine aZ (qke s _) ?_;simp;refine aZ (Zn (.st s) hs _) ?_;simp;exact aQ (r:=rfl)
def qyk(s:Ex)(hs:s.ok):∀S,Fn prog 90 [s.v] S (af ((Pa.ex s).err aH)):=by
 refine Pu.ib C90 ?_;simp[C90,aL,ab];refine aZ (qkj s _) ?_;simp;refine aZ (Zn (.ex s) hs _) ?_;simp;exact aQ (r:=rfl)
def qw0(s:De)(hs:s.ok):∀S,Fn prog 130 [s.v] S (af ((Pa.de s).err aH)):=by
 refine Pu.ib qaH ?_;simp[qaH,aL,ab];refine aZ (qkq s _) ?_;simp;refine aZ (Zn (.de s) hs _) ?_;simp;exact aQ (r:=rfl)
def rD(s:Sm):V:=.agg [af 1,ah (s.labels.map .str),af s.kind,.str s.text,ah (s.targets.map Ex.v),ah (s.aw.map Ex.v),ah (s.elems.map El.v),ah (s.decls.map De.v),ah (s.body.map Sm.v),z0,.bool false,z0,sN,sN,sN,sN,z0,sN,z0,z0,z0,z0,z0,.str ⟨⟨[]⟩⟩,sN]
def qO(d:De):V:=.agg [af 2,sN,z0,.str ⟨⟨[]⟩⟩,sN,sN,sN,sN,sN,af d.kind,.bool d.own,af d.type,ah (d.names.map .str),ah (d.aw.map Ex.v),ah (d.aj.map Fo.v),ah (d.body.map Sm.v),z0,sN,z0,z0,z0,z0,z0,.str ⟨⟨[]⟩⟩,sN]
def rC(e:El):V:=.agg [af 3,sN,z0,.str ⟨⟨[]⟩⟩,sN,sN,sN,sN,sN,z0,.bool false,z0,sN,sN,sN,sN,af e.kind,ah (e.aw.map Ex.v),z0,z0,z0,z0,z0,.str ⟨⟨[]⟩⟩,sN]
def nA(x:Ex):V:=.agg [af 4,sN,z0,.str ⟨⟨[]⟩⟩,sN,sN,sN,sN,sN,z0,.bool false,z0,sN,sN,sN,sN,z0,sN,af x.kind,af x.op,af x.n,af x.dQ,af x.exp,.str x.text,ah (x.args.map Ex.v)]
def Pa.fX:Pa->V
 |.st s=>rD s
 |.de d=>qO d
 |.el e=>rC e
 |.ex x=>nA x
def Pa.qju(p:Pa):p.fX.weak=p.v:=by
 cases p<;>simp only[Pa.fX,rD,qO,rC,nA,V.weak,V.cR,oq,uf,ug,oW,vJ,nf]<;>rfl
def Em(p:Pa):fits 25 [p.fX]=true:=by cases p<;>rfl
def Ot(s:Sm):∀S,Fn prog 113 [s.v] S (Pa.st s).v:=by
 refine Pu.intro (R:=λv=>v=(Pa.st s).v) TG.g TG.o (qA rfl) (by simp[V.under]) (by rintro v rfl;simp) ?_;simp[TG,aL,ab,aI,mG,bR,bP];refine FG rfl ?_ ?_
 .simp only[aY,V.weak,V.cR,oq,uf,ug,oW,vJ,nf];rfl
 .simp[aY,V.weak,V.cR,V.under,V.dr]
def Zr(s:De):∀S,Fn prog 135 [s.v] S (Pa.de s).v:=by
 refine Pu.intro (R:=λv=>v=(Pa.de s).v) TI.g TI.o (qA rfl) (by simp[V.under]) (by rintro v rfl;simp) ?_;simp[TI,aL,ab,aI,mG,bR,bP];refine FG rfl ?_ ?_
 .simp only[aY,V.weak,V.cR,oq,uf,ug,oW,vJ,nf];rfl
 .simp[aY,V.weak,V.cR,V.under,V.dr]
def Zs(s:Ex):∀S,Fn prog 141 [s.v] S (Pa.ex s).v:=by
 refine Pu.intro (R:=λv=>v=(Pa.ex s).v) TJ.g TJ.o (qA rfl) (by simp[V.under]) (by rintro v rfl;simp) ?_;simp[TJ,aL,ab,aI,mG,bR,bP];refine FG rfl ?_ ?_
 .simp only[aY,V.weak,V.cR,oq,uf,ug,oW,vJ,nf];rfl
 .simp[aY,V.weak,V.cR,V.under,V.dr]
def qkt(p:Pa)(hp:p.ok):∀S,Fn prog 200 [p.v] S (af p.own):=by
 refine Pu.ib Kv ?_;have h1:=Pa.Si hp;unfold bi at h1
 cases p with
 |st s=>
  simp only[Pa.own]at h1;simp[Kv,aL,ab,Pa.v,Pa.kind,Pa.toS,Pa.own,fO (n:=1+(s.labels.length:Int)) oM oM];exact aQ (r:=rfl)
 |de d=>
  simp only[Pa.own]at h1;simp[Kv,aL,ab,Pa.v,Pa.kind,Pa.lH,Pa.own,fO (n:=1+(d.names.length:Int)) oM oM,fO (n:=1+(d.names.length:Int)+d.aj.length) oM oM];exact aQ (r:=rfl)
 |el e=>
  simp[Kv,aL,ab,Pa.v,Pa.kind,Pa.own];exact aQ (r:=rfl)
 |ex x=>
  simp[Kv,aL,ab,Pa.v,Pa.kind,Pa.own];exact aQ (r:=rfl)
def qxv(p:Pa)(hp:p.ok):∀S,Fn prog 201 [p.v] S (af p.kids.length):=by
 refine Pu.ib Kw ?_;rw[Jn]
 cases p with
 |st s=>
  have o:=(Sm.fh s).1 hp;have o1:=o.targets.1;have o2:=o.aw.1;have o3:=o.elems.1;have o4:=o.decls.1;have o5:=o.body.1;unfold bi at o1 o2 o3 o4 o5;simp[Kw,aL,ab,aI,aU,Pa.v,Pa.kind,Pa.toS,fO (n:=(s.targets.length:Int)+s.aw.length) oM oM,fO (n:=(s.targets.length:Int)+s.aw.length+s.elems.length) oM oM,
   fO (n:=(s.targets.length:Int)+s.aw.length+s.elems.length+s.decls.length) oM oM,fO (n:=(s.targets.length:Int)+s.aw.length+s.elems.length+s.decls.length+s.body.length) oM oM]
  exact aQ (r:=by simp[aY];omega)
 |de d=>
  have o:=(De.fh d).1 hp;have o1:=o.aw.1;have o2:=o.body.1;unfold bi at o1 o2;simp[Kw,aL,ab,Pa.v,Pa.kind,Pa.lH,fO (n:=(d.aw.length:Int)+d.body.length) oM oM];exact aQ (r:=rfl)
 |el e=>
  simp[Kw,aL,ab,Pa.v,Pa.kind,Pa.nB];exact aQ (r:=rfl)
 |ex x=>
  simp[Kw,aL,ab,Pa.v,Pa.kind,Pa.nE];exact aQ (r:=rfl)
def qH(n:Nat)(xs:List V):V:=match xs with
 |[]=>sN
 |_::_=>.arr n 0 xs.length xs.length
def nu(S:St)(xs:List V):St:=match xs with
 |[]=>S
 |_::_=>S++[.arr xs 25 1]
def qeX{n:Nat}{xs:List V}(h:xs≠[]):qH n xs=.arr n 0 xs.length xs.length:=by
 cases xs with
 |nil=>exact absurd rfl h
 |cons=>rfl
def qeW{S:St}{xs:List V}(h:xs≠[]):nu S xs=S++[.arr xs 25 1]:=by
 cases xs with
 |nil=>exact absurd rfl h
 |cons=>rfl
def QA{S:St}{xs:List V}{y:V}(hy:fits 25 [y]=true)(hl:xs.length<=1000000):fV (nu S xs) 25 408 (qH S.length xs) (.sl true [y])=some (qH S.length (xs++[y]),nu S (xs++[y])):=by
 rw[qeX (xs:=xs++[y]) sM,qeW (xs:=xs++[y]) sM]
 cases xs with
 |nil=>
  simp only[nu,qH,fV,elems];rw[au sM,ak ⟨trivial,hy,rfl,sM⟩];simp
 |cons x xs=>
  rw[qeX sM,qeW sM];simp only[fV,elems];have hg:(S++[Ob.arr (x::xs) 25 1])[S.length]?=aJ (x::xs) 25:=sM;rw[hg];simp only;rw[ak ⟨trivial,trivial,trivial,trivial,hy,by simp at hl |-;omega⟩];simp
def qeV{S:St}{xs:List V}{l:Nat}{o:Ob}(h:S[l]?=some o):(nu S xs)[l]?=some o:=by
 cases xs with
 |nil=>exact h
 |cons=>exact gp h
def Oz(S:St)(xs:List V)(l:List Ex)(hl:xs.length+l.length<=1000000):
  aA prog 228 [qH S.length xs,ah (l.map Ex.v)] (nu S xs) (λr U=>r=qH S.length (xs++l.map nA)/\U=nu S (xs++l.map nA)):=by
 refine aA.ib qbH ?_;simp only[qbH,fW];simp;refine cE (λj e S'=>∃i:Nat,j=l.length - i∧i≤l.length∧S'=nu S (xs++(l.map nA).take i)∧
  e=[(5,af i),(0,qH S.length (xs++(l.map nA).take i)),(1,ah (l.map Ex.v))]) l.length _ ?_ ⟨0,sM,oM,sM,rfl⟩ ?_
 .exact ba
 rintro j e S' ⟨i,rfl,hi,rfl,rfl⟩;by_cases h:i<l.length
 .have ha:=QA (S:=S) (xs:=xs++(l.map nA).take i) (y:=nA l[i]) (Em (.ex l[i])) (by simp;omega)
  have hn:xs++(l.map nA).take i++[nA l[i]]=xs++(l.map nA).take (i+1):=by
   rw[dN,dS,bX h,fG,iP,dY]
  rw[hn]at ha;have hf:fits 25 [nA l[i]]=true:=Em (.ex l[i]);generalize hr:nA l[i]=y at ha hf;have hb:bP (.agg [z0,sN,z0,.str ⟨⟨[]⟩⟩,sN,sN,sN,sN,sN,z0,.bool false,z0,sN,sN,sN,sN,z0,sN,z0,z0,z0,z0,z0,.str ⟨⟨[]⟩⟩,sN]) [(0,1,af 4),(18,7,l[i].v)]=some y:=by rw[<-hr];simp[bP,aU,nA]
  simp[h,qJ,bR,hb,hf,ha,cG i];refine⟨_,?_,_,?_,i+1,rfl,oM,rfl,rfl⟩
  .omega
  .exact ba
 .have:i=l.length:=oM;subst this;simp[h];refine bu rfl ⟨?_,?_⟩
  .simp only[aY];rw[mJ sM]
  .rw[mJ sM]
def qkz(S:St)(xs:List V)(l:List Sm)(hl:xs.length+l.length<=1000000):
  aA prog 229 [qH S.length xs,ah (l.map Sm.v)] (nu S xs) (λr U=>r=qH S.length (xs++l.map rD)/\U=nu S (xs++l.map rD)):=by
 refine aA.ib qbI ?_;simp only[qbI,fW];simp;refine cE (λj e S'=>∃i:Nat,j=l.length - i∧i≤l.length∧S'=nu S (xs++(l.map rD).take i)∧
  e=[(5,af i),(0,qH S.length (xs++(l.map rD).take i)),(1,ah (l.map Sm.v))]) l.length _ ?_ ⟨0,sM,oM,sM,rfl⟩ ?_
 .exact ba
 rintro j e S' ⟨i,rfl,hi,rfl,rfl⟩;by_cases h:i<l.length
 .have ha:=QA (S:=S) (xs:=xs++(l.map rD).take i) (y:=rD l[i]) (Em (.st l[i])) (by simp;omega)
  have hn:xs++(l.map rD).take i++[rD l[i]]=xs++(l.map rD).take (i+1):=by
   rw[dN,dS,bX h,fG,iP,dY]
  rw[hn]at ha;have hf:fits 25 [rD l[i]]=true:=Em (.st l[i]);generalize hr:rD l[i]=y at ha hf;have hb:bP (.agg [z0,sN,z0,.str ⟨⟨[]⟩⟩,sN,sN,sN,sN,sN,z0,.bool false,z0,sN,sN,sN,sN,z0,sN,z0,z0,z0,z0,z0,.str ⟨⟨[]⟩⟩,sN]) [(0,1,af 1),(1,8,l[i].v)]=some y:=by rw[<-hr];simp[bP,aU,rD]
  simp[h,yv,bR,hb,hf,ha,cG i];refine⟨_,?_,_,?_,i+1,rfl,oM,rfl,rfl⟩
  .omega
  .exact ba
 .have:i=l.length:=oM;subst this;simp[h];refine bu rfl ⟨?_,?_⟩
  .simp only[aY];rw[mJ sM]
  .rw[mJ sM]
def qpO(S:St)(xs:List V):Gr 25 0 xs (qH S.length xs) (nu S xs):=by
 cases xs with
 |nil=>exact .inl ⟨rfl,rfl⟩
 |cons x xs=>exact .inr ⟨S.length,1,fS _,rfl,by simp[nu],sM⟩
def qvn(l:List Pa):(l.map Pa.fX).map V.weak=l.map Pa.v:=by
 rw[nJ];exact rR λp _=>Pa.qju p
def Qg{rs:List RV}{e:ae}{S:St}{l:List Pa}(h:eL e (nu S (l.map Pa.fX)) rs=some [qH S.length (l.map Pa.fX)]):
  eN rs 0 (λv U=>v=ah (l.map Pa.v)/\U=[]) .ret e (nu S (l.map Pa.fX)):=
 qn5 (R:=λv=>v=ah (l.map Pa.v)) h (qpO S _) (λx hx=>by
  obtain⟨p,_,rfl⟩:=cY.1 hx;rw[Pa.qju];simp) (by rw[qvn])
def NN(l:List Ex):l.map nA=(l.map Pa.ex).map Pa.fX:=by rw[nJ];rfl
def qg0(l:List Sm):l.map rD=(l.map Pa.st).map Pa.fX:=by rw[nJ];rfl
def qti(l:List El):l.map rC=(l.map Pa.el).map Pa.fX:=by rw[nJ];rfl
def qth(l:List De):l.map qO=(l.map Pa.de).map Pa.fX:=by rw[nJ];rfl
@[simp] theorem uPa(l:List Pa):V.dr 0 (l.map Pa.v)=true:=oo λx _=>Pa.eE x
def Ox(p:Pa)(hp:p.ok)(hl:p.kids.length<=2000):∀S,Fn prog 193 [p.v] S (ah (p.kids.map Pa.v)):=by
 refine Pu.intro (R:=λv=>v=ah (p.kids.map Pa.v)) HE.g HE.o (qA rfl) sM (by rintro v rfl;simp[V.under]) ?_;rw[Jn]at hl
 cases p with
 |el e=>
  simp only at hl;simp[HE,aL,ab];simp only[Pa.v,Pa.kind,Pa.toS,Pa.lH,Pa.nB,Pa.nE];simp[ab];refine bE (Oz [.arr [(Pa.el e).v] 25 1] [] e.aw (by simp;omega)) ?_;rintro v U ⟨rfl,rfl⟩;simp;rw[NN];exact Qg rfl
 |ex x=>
  simp only at hl;simp[HE,aL,ab];simp only[Pa.v,Pa.kind,Pa.toS,Pa.lH,Pa.nB,Pa.nE];simp[ab];refine bE (Oz [.arr [(Pa.ex x).v] 25 1] [] x.args (by simp;omega)) ?_;rintro v U ⟨rfl,rfl⟩;simp;rw[NN];exact Qg rfl
 |de d=>
  simp only at hl;simp[HE,aL,ab];simp only[Pa.v,Pa.kind,Pa.toS,Pa.lH,Pa.nB,Pa.nE];simp[ab];refine P7 (Oz [.arr [(Pa.de d).v] 25 1] [] d.aw (by simp;omega)) ?_;have h0:(nu [Ob.arr [(Pa.de d).v] 25 1] ([]++d.aw.map nA))[0]?=aJ [(Pa.de d).v] 25:=qeV rfl;simp only[ig]at h0 |-;simp only[Pa.v,Pa.kind,Pa.toS,Pa.lH,Pa.nB,Pa.nE]at h0 |-;simp[ab,h0];refine P7 (qkz _ (d.aw.map nA) d.body (by simp;omega)) ?_;simp[dP,eF,eZ,ab,h0];rw[NN,qg0,<-cJ];exact Qg rfl
 |st s=>
  simp only at hl;simp[HE,aL,ab,aI,aU];simp only[Pa.v,Pa.kind,Pa.toS,Pa.lH,Pa.nB,Pa.nE];simp[ab,aI,aU,aL];obtain⟨B,hB⟩:=eX (α:=St) ([.arr [jz 1 s De.z El.z Ex.z] 25 1,.arr [s.v] 8 1]);have LM:B.length=2:=by rw[hB];rfl
  have AL:B[1]?=aJ [s.v] 8:=by rw[hB];rfl
  have c1:=Oz B [] s.targets (by simp;omega);have c2:=Oz B (s.targets.map nA) s.aw (by simp;omega);rw[LM]at c1 c2;simp only[ig]at c1;have nV:∀xs,(nu B xs)[1]?=aJ [s.v] 8:=λxs=>qeV AL
  have c1':aA prog 228 [sN,ah (s.targets.map Ex.v)] B (λr U=>r=qH 2 (s.targets.map nA)/\U=nu B (s.targets.map nA)):=c1;simp only[hB]at c1';refine bE c1' ?_;rintro v U ⟨rfl,rfl⟩;simp only[<-hB];simp[ab,nV];refine bE c2 ?_;rintro v U ⟨rfl,rfl⟩;generalize sC:s.targets.map nA++s.aw.map nA=xs;have XA:xs.length=s.targets.length+s.aw.length:=by rw[<-sC];simp
  simp;refine eA (λe U=>e.get 4=some (qH 2 (xs++s.elems.map rC))/\e.get 3=some (ag 1)/\U=nu B (xs++s.elems.map rC)) ?_ ?_
  ·refine cE (λj e S'=>∃i:Nat,j=s.elems.length - i∧i≤s.elems.length∧S'=nu B (xs++(s.elems.map rC).take i)∧
    e=[(5,af i),(4,qH 2 (xs++(s.elems.map rC).take i)),(3,ag 1)]) s.elems.length _ ?_ ⟨0,sM,oM,sM,rfl⟩ ?_
   .exact ba
   rintro j e S' ⟨i,rfl,hi,rfl,rfl⟩;by_cases h:i<s.elems.length
   .have ha:=QA (S:=B) (xs:=xs++(s.elems.map rC).take i) (y:=rC s.elems[i]) (Em (.el s.elems[i])) (by simp;omega)
    have hn:xs++(s.elems.map rC).take i++[rC s.elems[i]]=xs++(s.elems.map rC).take (i+1):=by
     rw[dN,dS,bX h,fG,iP,dY]
    rw[hn,LM]at ha;have hf:fits 25 [rC s.elems[i]]=true:=Em (.el s.elems[i]);generalize hr:rC s.elems[i]=y at ha hf;have hb:bP (.agg [z0,sN,z0,.str ⟨⟨[]⟩⟩,sN,sN,sN,sN,sN,z0,.bool false,z0,sN,sN,sN,sN,z0,sN,z0,z0,z0,z0,z0,.str ⟨⟨[]⟩⟩,sN]) [(0,1,af 3),(16,2,s.elems[i].v)]=some y:=by rw[<-hr];simp[bP,aU,rC]
    simp[h,ab,nV,Nu,bR,hb,hf,ha,cG i];refine⟨_,?_,_,?_,i+1,rfl,oM,rfl,rfl⟩
    .omega
    .exact ba
   .have:i=s.elems.length:=oM;subst this;simp[ab,nV];rw[mJ sM];exact⟨rfl,rfl⟩
  rintro e U ⟨g4,g3,rfl⟩;generalize qgd:xs++s.elems.map rC=ys at *;have hyl:ys.length=s.targets.length+s.aw.length+s.elems.length:=by rw[<-qgd];simp;omega
  simp[g3,g4];refine eA (λe U=>e.get 4=some (qH 2 (ys++s.decls.map qO))/\e.get 3=some (ag 1)/\U=nu B (ys++s.decls.map qO)) ?_ ?_
  ·refine cE (λj e S'=>∃i:Nat,j=s.decls.length - i∧i≤s.decls.length∧S'=nu B (ys++(s.decls.map qO).take i)∧
    e=[(6,af i),(4,qH 2 (ys++(s.decls.map qO).take i)),(3,ag 1)]) s.decls.length _ ?_ ⟨0,sM,oM,sM,rfl⟩ ?_
   .repeat' first|exact ae.gZ _|refine ae.fp (by simp[g3,g4]) ?_
   rintro j e S' ⟨i,rfl,hi,rfl,rfl⟩;by_cases h:i<s.decls.length
   .have ha:=QA (S:=B) (xs:=ys++(s.decls.map qO).take i) (y:=qO s.decls[i]) (Em (.de s.decls[i])) (by simp;omega)
    have hn:ys++(s.decls.map qO).take i++[qO s.decls[i]]=ys++(s.decls.map qO).take (i+1):=by
     rw[dN,dS,bX h,fG,iP,dY]
    rw[hn,LM]at ha;have hf:fits 25 [qO s.decls[i]]=true:=Em (.de s.decls[i]);generalize hr:qO s.decls[i]=y at ha hf;have hb:bP (.agg [z0,sN,z0,.str ⟨⟨[]⟩⟩,sN,sN,sN,sN,sN,z0,.bool false,z0,sN,sN,sN,sN,z0,sN,z0,z0,z0,z0,z0,.str ⟨⟨[]⟩⟩,sN]) [(0,1,af 2),(9,7,s.decls[i].v)]=some y:=by rw[<-hr];simp[bP,aU,qO]
    simp[h,ab,nV,Gt,bR,hb,hf,ha,cG i];refine⟨_,?_,_,?_,i+1,rfl,oM,rfl,rfl⟩
    .omega
    .exact ba
   .have:i=s.decls.length:=oM;subst this;simp[ab,nV];rw[mJ sM];exact⟨rfl,rfl⟩
  clear g3 g4;rintro e U ⟨g4,g3,rfl⟩;have c3:=qkz B (ys++s.decls.map qO) s.body (by simp;omega);rw[LM]at c3;simp[g3,g4,ab,nV];refine bE c3 ?_;rintro v U ⟨rfl,rfl⟩;simp
  have hz:ys++s.decls.map qO++s.body.map rD=(Pa.st s).kids.map Pa.fX:=by
   rw[<-qgd,<-sC,NN,NN,qti,qth,qg0];simp only[Pa.kids,cJ,dY]
  rw[<-dY,hz,<-LM];exact Qg sM
def Rm{l:List Pa}{i:Nat}(h:i<l.length)(b:Bool)(S:St):gP S 25 (.sl b (l.map Pa.v)) i=some (.cq (Pa.v l[i]) 0):=Gu (f:=Pa.v) (λ_=>rfl) h b S
def qd6:∀l:List Pa,(∀p,p∈l->p.depth<=p.size)->jW l<=bk l
 |[],_=>dl _
 |p::l,h=>by
  have h1:=h p sM;have h2:=qd6 l λq hq=>h q (by simp[hq])
  rw[P9,iN];omega
def qnE:∀(k:Nat) (p:Pa),p.wt<=k->p.depth<=p.size:=by
 intro k
 induction k with
 |zero=>intro p h;exfalso;cases p with
  |st s=>cases s;simp[Pa.wt]at h
  |de s=>cases s;simp[Pa.wt]at h
  |el s=>cases s;simp[Pa.wt]at h
  |ex s=>cases s;simp[Pa.wt]at h
 |succ k ih=>
  intro p hw;rw[Pa.CS,Pa.size_eq];have:=qd6 p.kids λq hq=>ih q (by have:=Pa.zG hq;omega)
  have:=p.Ej;omega
def pI(z:Nat)(n:Int):Int:=if(z:Int)<=n then n-z else -1
def qxi:∀(k:Nat) (p:Pa),p.wt<=k->p.ok->∀n:Int,0<=n->n<=2000->∀S,Fn prog 174 [p.v,af n] S (af (pI p.size n)):=by
 intro k
 induction k with
 |zero=>intro p h;exfalso;cases p with
  |st s=>cases s;simp[Pa.wt]at h
  |de s=>cases s;simp[Pa.wt]at h
  |el s=>cases s;simp[Pa.wt]at h
  |ex s=>cases s;simp[Pa.wt]at h
 |succ k ih=>
  intro p hw hp n yl qf;refine Pu.ib qa8 ?_;have ho:=Pa.Si hp;have hs:=p.size_eq;have hlen:=oi p.kids;unfold bi at ho
  have mz:p.kids.length<=9007199254740992:=by
   rw[Jn]
   cases p with
   |st s=>
    have o:=(Sm.fh s).1 hp;have o1:=o.targets.1;have o2:=o.aw.1;have o3:=o.elems.1;have o4:=o.decls.1;have o5:=o.body.1;unfold bi at o1 o2 o3 o4 o5;simp only;omega
   |de d=>
    have o:=(De.fh d).1 hp;have o1:=o.aw.1;have o2:=o.body.1;unfold bi at o1 o2;simp only;omega
   |el e=>have:=hp.1;unfold bi at this;simp only;omega
   |ex x=>have:=(Ex.NW hp).1;unfold bi at this;simp only;omega
  have w1:IntKind.i64.wrap ((p.own:Int)+p.kids.length)=(p.own:Int)+p.kids.length:=fO oM oM;have w2:IntKind.i64.wrap (n-p.own)=n-p.own:=fO oM oM;simp[qa8,aL,ab];refine nG (qkt p hp _) ?_;simp[ab];refine nG (qxv p hp _) ?_;simp[dP,eF,eZ,ab,w1];by_cases QM:n<(p.own:Int)+p.kids.length
  .simp[QM];refine fB rfl ?_ rfl;unfold pI;rw[au oM];rfl
  simp[QM,ab];refine aZ (qkt p hp _) ?_;simp[ab,w2];refine aZ (Ox p hp oM _) ?_;simp;refine eA (λe U=>e.get 1=some (af (pI p.size n))) ?_ ?_
  ·refine cE (λj e S'=>∃i:Nat,j=p.kids.length - i∧i≤p.kids.length∧
    e=[(6,af i),(5,ah (p.kids.map Pa.v)),(1,af (pI (bk (p.kids.take i)) (n-p.own)))]) p.kids.length _ ?_ ⟨0,sM,oM,rfl⟩ ?_
   .have hz:pI 0 (n-p.own)=n-p.own:=by unfold pI;rw[ak oM];omega
    repeat' first|exact ae.gZ _|refine ae.fp (by simp[hz]) ?_
   rintro j e S' ⟨i,rfl,hi,rfl⟩;by_cases h:i<p.kids.length
   .have hq:p.kids[i]?=some p.kids[i]:=by simp[h]
    have q1:=Zf hq;have q2:=nc hq;by_cases h0:(bk (p.kids.take i):Int)<=n-p.own
    .have hm:pI (bk (p.kids.take i)) (n-p.own)=n-p.own-bk (p.kids.take i):=by unfold pI;rw[ak h0]
     have hk:=Pa.zG (dz h);simp[h,hm,show(bk (p.kids.take i):Int)<=n-p.own by omega,Rm];refine aZ (ih p.kids[i] oM (Pa.GG hp (dz h)) _ oM oM _) ?_;simp[cG i];refine⟨_,?_,_,?_,i+1,rfl,oM,rfl⟩
     .omega
     ·exact ae.fp (k:=6) (v:=af (i+1:Nat)) sM (ae.fp (k:=5) (v:=ah (p.kids.map Pa.v)) sM (ae.fp (k:=1) (v:=af (pI (bk (p.kids.take (i+1))) (n - p.own))) (by
      simp;rw[q1];unfold pI;split<;>split<;>omega) (ae.gZ _)))
    .have hm:pI (bk (p.kids.take i)) (n-p.own)=-1:=by unfold pI;rw[au h0]
     simp[h,hm];unfold pI;rw[au oM]
   .have:i=p.kids.length:=oM;subst this;simp;unfold pI;split<;>split<;>omega
  .rintro e U g;simp[g];exact fB (vs:=[af (pI p.size n)]) sM rfl rfl
def qxq:∀(k:Nat) (p:Pa),p.wt<=k->p.ok->p.size<=2000->∀S,Fn prog 188 [p.v] S (af p.depth):=by
 intro k
 induction k with
 |zero=>intro p h;exfalso;cases p with
  |st s=>cases s;simp[Pa.wt]at h
  |de s=>cases s;simp[Pa.wt]at h
  |el s=>cases s;simp[Pa.wt]at h
  |ex s=>cases s;simp[Pa.wt]at h
 |succ k ih=>
  intro p hw hp bF;refine Pu.ib qbj ?_;have hs:=p.size_eq;have hlen:=oi p.kids;have dW:=p.Ej;have hd:=p.CS;have io:=qnE _ p cz;simp[qbj,aL,ab];refine aZ (Ox p hp oM _) ?_;simp;refine eA (λe U=>e.get 3=some (af (jW p.kids))) ?_ ?_
  ·refine cE (λj e S'=>∃i:Nat,j=p.kids.length - i∧i≤p.kids.length∧
    e=[(5,af i),(4,ah (p.kids.map Pa.v)),(3,af (jW (p.kids.take i)))]) p.kids.length _ ?_ ⟨0,sM,oM,rfl⟩ ?_
   .exact ba
   rintro j e S' ⟨i,rfl,hi,rfl⟩;by_cases h:i<p.kids.length
   .have hq:p.kids[i]?=some p.kids[i]:=by simp[h]
    have q1:=Vr hq;have q2:=nc hq;have hk:=Pa.zG (dz h);simp[h,Rm];refine aZ (ih p.kids[i] oM (Pa.GG hp (dz h)) oM _) ?_;simp[bI,zJ,cG i];refine⟨_,?_,_,?_,i+1,rfl,oM,rfl⟩
    .omega
    ·exact ae.fp (k:=5) (v:=af (i+1:Nat)) sM (ae.fp (k:=4) (v:=ah (p.kids.map Pa.v)) sM (ae.fp (k:=3) (v:=af (jW (p.kids.take (i+1)))) (by
     simp;rw[q1];split<;>omega) (ae.gZ _)))
   .have:i=p.kids.length:=oM;subst this;simp
  .rintro e U g;simp[g,fO (n:=1+(jW p.kids:Int)) oM oM];exact fB (vs:=[af (1+jW p.kids)]) sM (by simp[aY,hd]) rfl
def Zv(p:Pa)(hp:p.ok):∀S,Fn prog 159 [p.v] S (.bool (decide p.fits)):=by
 refine Pu.ib qaY ?_;simp[qaY,aL,ab];refine aZ (qxi _ p cz hp 2000 oM oM _) ?_;by_cases h:p.size<=2000
 .have hm:pI p.size 2000=2000-p.size:=by unfold pI;rw[ak oM]
  simp[hm,show(p.size:Int)<=2000 by omega,ab];refine aZ (qxq _ p cz hp h _) ?_;simp;exact aQ (r:=by simp[aY,Pa.fits,h];omega)
 .have hm:pI p.size 2000=-1:=by unfold pI;rw[au oM]
  simp[hm];exact aQ (r:=by simp[aY,Pa.fits,h])
def qjX(l m:List Bz)(i:Nat):Prop:=∀j,j<i->l[j]?=m[j]?
def qvN{l m:List Bz}(hl:l.length=m.length)(h:qjX l m l.length):l=m:=by
 apply vV;intro i;by_cases hi:i<l.length
 .exact h i hi
 .rw[rQ oM,rQ oM]
def qkB(l m:List Bz)(hl:l.length<=bi):∀S,Fn prog 233 [ah (l.map .str),ah (m.map .str)] S (.bool (decide (l=m))):=by
 refine Pu.ib TQ ?_;unfold bi at hl;by_cases hlen:l.length=m.length
 case neg=>
  have bZ:¬l=m:=λh=>hlen (by rw[h])
  simp only[e9 bZ];simp[TQ,show ¬((l.length:Int)=m.length) by omega];exact aQ (r:=rfl)
 generalize hd:decide (l=m)=b;simp only[TQ,fW];simp[hlen];refine cE (λj e S'=>∃i:Nat,j=l.length - i∧i≤l.length∧qjX l m i∧
  e=[(5,af i),(0,ah (l.map .str)),(1,ah (m.map .str))]) l.length _ ?_ ⟨0,sM,oM,λj hj=>by omega,rfl⟩ ?_
 .exact ba
 rintro j e S' ⟨i,rfl,hi,hq,rfl⟩;by_cases h:i<l.length
 .have h':i<m.length:=oM;by_cases hx:l[i]=m[i]
  .simp[h,h',oR,dP,eF,eZ,hx,cG i];refine⟨_,?_,_,?_,i+1,rfl,oM,?_,rfl⟩
   .omega
   .exact ba
   .intro j hj;by_cases rl:j=i
    .subst rl;simp[h,h',hx]
    .exact hq j oM
  .simp[h,h',oR,dP,eF,eZ,hx];refine fB rfl ?_ rfl;rw[<-hd];have:¬l=m:=λhh=>hx (by simp[hh])
   simp[aY,this]
 .have:i=l.length:=oM;subst this;simp;refine fB rfl ?_ rfl;rw[<-hd,pf (qvN hlen hq)];rfl
open Classical in
def qn8(f g:Fo):jJ [.str f.name,.bool f.value,af f.spec,af f.type] [.str g.name,.bool g.value,af g.spec,af g.type] [(0,.s),(1,.b),(2,.i),(3,.i)]=some (decide (f=g)):=by
 by_cases h1:f.name=g.name
 .by_cases h2:f.value=g.value
  .by_cases h3:f.spec=g.spec
   .by_cases h4:f.type=g.type
    .have:f=g:=by cases f;cases g;simp at *;exact⟨h1,h2,h3,h4⟩
     simp[jJ,uL,this]
    .have hb:(f.type==g.type)=false:=by simpa using h4
     have:¬f=g:=λh=>h4 (by rw[h])
     simp[jJ,uL,h1,h2,h3,hb,this]
   .have hb:(f.spec==g.spec)=false:=by simpa using h3
    have:¬f=g:=λh=>h3 (by rw[h])
    simp[jJ,uL,h1,h2,hb,this]
  .have hb:(f.value==g.value)=false:=by simpa using h2
   have:¬f=g:=λh=>h2 (by rw[h])
   simp[jJ,uL,h1,hb,this]
 .have hb:(f.name.data.toList==g.name.data.toList)=false:=by
   rw[beq_eq_false_iff_ne];intro hh;exact h1 (vT (xz hh))
  have:¬f=g:=λh=>h1 (by rw[h])
  simp[jJ,uL,hb,this]
def kg(s t:Sm):Prop:=s.targets.length=t.targets.length/\s.aw.length=t.aw.length/\s.elems.length=t.elems.length/\s.decls.length=t.decls.length/\s.body.length=t.body.length
def pQ(c d:De)(e f:El)(x y:Ex):Prop:=c.aw.length=d.aw.length/\c.body.length=d.body.length/\e.aw.length=f.aw.length/\x.args.length=y.args.length
def qV(s t:Sm):Prop:=s.kind=t.kind/\s.text=t.text/\s.labels=t.labels
def rP(c d:De):Prop:=c.kind=d.kind/\c.own=d.own/\c.type=d.type/\c.names=d.names
def sY(x y:Ex):Prop:=x.kind=y.kind/\x.op=y.op/\x.n=y.n/\(x.dQ=y.dQ/\x.exp=y.exp)/\x.text=y.text
def yV(k k':Int)(s t:Sm)(c d:De)(e f:El)(x y:Ex):Prop:=(k=k'/\c.aj=d.aj)/\(kg s t/\pQ c d e f x y)/\qV s t/\rP c d/\e.kind=f.kind/\sY x y
structure KA(e:ae):Prop where
 g2:e.get 2=some (ag 0)
 g3:e.get 3=some (ag 1)
 g5:e.get 5=some (ag 2)
 g6:e.get 6=some (ag 3)
 g7:e.get 7=some (ag 4)
 g8:e.get 8=some (ag 5)
structure HI(e:ae):Prop where
 g:KA e
 g10:e.get 10=some (ag 6)
 g11:e.get 11=some (ag 7)
def qeO(l m:List Fo)(i:Nat):Prop:=∀j,j<i->l[j]?=m[j]?
def qpi{l m:List Fo}(hl:l.length=m.length)(h:qeO l m l.length):l=m:=by
 apply vV;intro i;by_cases hi:i<l.length
 .exact h i hi
 .rw[rQ oM,rQ oM]
open Classical in
def S4(k k':Int)(s t:Sm)(c d:De)(e f:El)(x y:Ex)(hs:s.ok)(hc:c.ok):∀S,Fn prog 195 [jz k s c e x,jz k' t d f y] S (.bool (decide (yV k k' s t c d e f x y))):=by
 refine Pu.ib qbo ?_;have hO:=(Sm.fh s).1 hs;have hP:=(De.fh c).1 hc;have qd:=hP.aj.1;unfold bi at qd;obtain⟨S6,IP⟩:=eX (α:=St) ([.arr [jz k s c e x] 25 1,.arr [jz k' t d f y] 25 1,.arr [s.v] 8 1,.arr [t.v] 8 1,.arr [c.v] 7 1,.arr [d.v] 7 1]);obtain⟨S8,AP⟩:=eX (α:=St) ([.arr [jz k s c e x] 25 1,.arr [jz k' t d f y] 25 1,.arr [s.v] 8 1,.arr [t.v] 8 1,.arr [c.v] 7 1,.arr [d.v] 7 1,.arr [x.v] 7 1,.arr [y.v] 7 1]);have V9:S6[0]?=aJ [jz k s c e x] 25:=by rw[IP];rfl
 have Wa:S6[1]?=aJ [jz k' t d f y] 25:=by rw[IP];rfl
 have IK:S6[4]?=aJ [c.v] 7:=by rw[IP];rfl
 have IL:S6[5]?=aJ [d.v] 7:=by rw[IP];rfl
 have jL:S8[0]?=aJ [jz k s c e x] 25:=by rw[AP];rfl
 have jM:S8[1]?=aJ [jz k' t d f y] 25:=by rw[AP];rfl
 have ko:S8[2]?=aJ [s.v] 8:=by rw[AP];rfl
 have kq:S8[3]?=aJ [t.v] 8:=by rw[AP];rfl
 have kx:S8[4]?=aJ [c.v] 7:=by rw[AP];rfl
 have ky:S8[5]?=aJ [d.v] 7:=by rw[AP];rfl
 have kz:S8[6]?=aJ [x.v] 7:=by rw[AP];rfl
 have kA:S8[7]?=aJ [y.v] 7:=by rw[AP];rfl
 have hX:∀z:Ex,z.v=.agg [af z.kind,af z.op,af z.n,af z.dQ,af z.exp,.str z.text,ah (z.args.map Ex.v)]:=Ex.eW;generalize A7:decide (yV k k' s t c d e f x y)=res;simp only[qbo,fW];refine cS (λE U=>E.get 2=some (ag 0)/\E.get 3=some (ag 1)/\U=[.arr [jz k s c e x] 25 1,.arr [jz k' t d f y] 25 1]) (by simp[aL,jV]) ?_;rintro E U ⟨g2,g3,rfl⟩;refine cS (λE U=>E.get 2=some (ag 0)/\E.get 3=some (ag 1)/\E.get 5=some (ag 2)/\E.get 6=some (ag 3)/\U=[.arr [jz k s c e x] 25 1,.arr [jz k' t d f y] 25 1,.arr [s.v] 8 1,.arr [t.v] 8 1]) ?_ ?_
 .simp[g2,g3,iW,ab,aI,aU,dP,eF,eZ]
 clear g2 g3 E;rintro E U ⟨g2,g3,g5,g6,rfl⟩;refine cS (λE U=>KA E/\U=S6) ?_ ?_
 .simp[g2,g3,iW,ab,aI,aU,dP,eF,eZ];exact⟨⟨by simp[g2],by simp[g3],by simp[g5],by simp[g6],sM,sM⟩,IP.symm⟩
 clear g2 g3 g5 g6 E;rintro E U ⟨⟨g2,g3,g5,g6,g7,g8⟩,hU⟩;rw[hU];clear hU U;refine cS (λE U=>KA E/\U=S6/\k=k'/\c.aj.length=d.aj.length) ?_ ?_
 .by_cases hk:k=k'
  case neg=>
   simp[g2,g3,g7,g8,ab,V9,Wa,IK,IL,hk];refine fB rfl ?_ rfl;rw[<-A7,e9 (λh=>hk h.1.1)];rfl
  by_cases hf:c.aj.length=d.aj.length
  case neg=>
   simp[g2,g3,g7,g8,ab,V9,Wa,IK,IL,hk,show ¬((c.aj.length:Int)=d.aj.length) by omega];refine fB rfl ?_ rfl;rw[<-A7,e9 (λh=>hf (by rw[h.1.2]))];rfl
  simp[g2,g3,g7,g8,ab,V9,Wa,IK,IL,hk,hf];exact⟨by simp[g2],by simp[g3],by simp[g5],by simp[g6],by simp[g7],by simp[g8]⟩
 clear g2 g3 g5 g6 g7 g8 E;rintro E U ⟨⟨g2,g3,g5,g6,g7,g8⟩,hU,iK,QU⟩;rw[hU];clear hU U;refine cS (λE U=>KA E/\U=S6/\c.aj=d.aj) ?_ ?_
 ·simp;refine eA (λE U=>KA E∧U=S6∧c.aj=d.aj) ?_ (λE U h=>h);refine cE (λj E U=>∃i:Nat,j=c.aj.length - i∧i≤c.aj.length∧qeO c.aj d.aj i∧U=S6∧
   E=[(9,af i),(2,ag 0),(3,ag 1),(5,ag 2),(6,ag 3),(7,ag 4),(8,ag 5)]) c.aj.length _ ?_ ⟨0,sM,oM,λj hj=>by omega,rfl,rfl⟩ ?_
  .repeat' first|exact ae.gZ _|refine ae.fp (by simp[g2,g3,g5,g6,g7,g8]) ?_
  rintro j E' U ⟨i,rfl,hi,hq,hU,rfl⟩;rw[hU];clear hU U;by_cases h:i<c.aj.length
  .have h':i<d.aj.length:=oM;have QQ:=qn8 c.aj[i] d.aj[i];by_cases hx:c.aj[i]=d.aj[i]
   .rw[pf hx]at QQ;simp[h,h',ab,IK,IL,ru,bI,Fo.v,dL,QQ,dP,eF,eZ,cG i];refine⟨_,?_,_,?_,i+1,rfl,oM,?_,rfl⟩
    .omega
    .exact ba
    .intro j hj;by_cases rl:j=i
     .subst rl;simp[h,h',hx]
     .exact hq j oM
   .rw[e9 hx]at QQ;simp[h,h',ab,IK,IL,ru,bI,Fo.v,dL,QQ,dP,eF,eZ];refine fB rfl ?_ rfl;rw[<-A7,e9 (λhh=>hx (by simp[hh.1.2]))];rfl
  .have:i=c.aj.length:=oM;subst this;simp[h,ab,IK,IL];exact⟨⟨sM,sM,sM,sM,sM,sM⟩,qpi QU hq⟩
 clear g2 g3 g5 g6 g7 g8 E;rintro E U ⟨⟨g2,g3,g5,g6,g7,g8⟩,hU,FX⟩;rw[hU];clear hU U;refine cS (λE U=>HI E/\U=S8) ?_ ?_
 .simp only[IP];simp[g2,g3,iW,ab,aI,aU,dP,eF,eZ];exact⟨⟨⟨by simp[g2],by simp[g3],by simp[g5],by simp[g6],by simp[g7],by simp[g8]⟩,sM,sM⟩,AP.symm⟩
 clear g2 g3 g5 g6 g7 g8 E;rintro E U ⟨⟨⟨g2,g3,g5,g6,g7,g8⟩,g10,g11⟩,hU⟩;rw[hU];clear hU U;refine cS (λE U=>HI E/\E.get 12=some (.bool (decide (kg s t)))/\U=S8) ?_ ?_
 .generalize hv:decide (kg s t)=v;by_cases a0:s.targets.length=t.targets.length
  case neg=>
   simp[g2,g3,g5,g6,g7,g8,g10,g11,ab,jL,jM,ko,kq,kx,ky,kz,kA,show ¬((s.targets.length:Int)=t.targets.length) by omega];refine⟨⟨⟨by simp[g2],by simp[g3],by simp[g5],by simp[g6],by simp[g7],by simp[g8]⟩,by simp[g10],by simp[g11]⟩,by rw[<-hv,e9 (λhh:kg s t=>a0 hh.1)]⟩
  by_cases a1:s.aw.length=t.aw.length
  case neg=>
   simp[g2,g3,g5,g6,g7,g8,g10,g11,ab,jL,jM,ko,kq,kx,ky,kz,kA,a0,show ¬((s.aw.length:Int)=t.aw.length) by omega];refine⟨⟨⟨by simp[g2],by simp[g3],by simp[g5],by simp[g6],by simp[g7],by simp[g8]⟩,by simp[g10],by simp[g11]⟩,by rw[<-hv,e9 (λhh:kg s t=>a1 hh.2.1)]⟩
  by_cases a2:s.elems.length=t.elems.length
  case neg=>
   simp[g2,g3,g5,g6,g7,g8,g10,g11,ab,jL,jM,ko,kq,kx,ky,kz,kA,a0,a1,show ¬((s.elems.length:Int)=t.elems.length) by omega];refine⟨⟨⟨by simp[g2],by simp[g3],by simp[g5],by simp[g6],by simp[g7],by simp[g8]⟩,by simp[g10],by simp[g11]⟩,by rw[<-hv,e9 (λhh:kg s t=>a2 hh.2.2.1)]⟩
  by_cases a3:s.decls.length=t.decls.length
  case neg=>
   simp[g2,g3,g5,g6,g7,g8,g10,g11,ab,jL,jM,ko,kq,kx,ky,kz,kA,a0,a1,a2,show ¬((s.decls.length:Int)=t.decls.length) by omega];refine⟨⟨⟨by simp[g2],by simp[g3],by simp[g5],by simp[g6],by simp[g7],by simp[g8]⟩,by simp[g10],by simp[g11]⟩,by rw[<-hv,e9 (λhh:kg s t=>a3 hh.2.2.2.1)]⟩
  by_cases a4:s.body.length=t.body.length
  case neg=>
   simp[g2,g3,g5,g6,g7,g8,g10,g11,ab,jL,jM,ko,kq,kx,ky,kz,kA,a0,a1,a2,a3,show ¬((s.body.length:Int)=t.body.length) by omega];refine⟨⟨⟨by simp[g2],by simp[g3],by simp[g5],by simp[g6],by simp[g7],by simp[g8]⟩,by simp[g10],by simp[g11]⟩,by rw[<-hv,e9 (λhh:kg s t=>a4 hh.2.2.2.2)]⟩
  simp[g2,g3,g5,g6,g7,g8,g10,g11,ab,jL,jM,ko,kq,kx,ky,kz,kA,a0,a1,a2,a3,a4];refine⟨⟨⟨by simp[g2],by simp[g3],by simp[g5],by simp[g6],by simp[g7],by simp[g8]⟩,by simp[g10],by simp[g11]⟩,by rw[<-hv,pf ⟨a0,a1,a2,a3,a4⟩]⟩
 clear g2 g3 g5 g6 g7 g8 g10 g11 E;rintro E U ⟨⟨⟨g2,g3,g5,g6,g7,g8⟩,g10,g11⟩,g12,hU⟩;rw[hU];clear hU U;refine cS (λE U=>HI E/\E.get 12=some (.bool (decide (kg s t/\pQ c d e f x y)))/\U=S8) ?_ ?_
 .generalize hv:decide (kg s t/\pQ c d e f x y)=v;by_cases b0:kg s t
  case neg=>
   rw[e9 b0]at g12;simp[g2,g3,g5,g6,g7,g8,g10,g11,ab,jL,jM,ko,kq,kx,ky,kz,kA,g12];refine⟨⟨⟨by simp[g2],by simp[g3],by simp[g5],by simp[g6],by simp[g7],by simp[g8]⟩,by simp[g10],by simp[g11]⟩,by rw[<-hv,e9 (λhh=>b0 hh.1)]⟩
  rw[pf b0]at g12;by_cases a0:c.aw.length=d.aw.length
  case neg=>
   simp[g2,g3,g5,g6,g7,g8,g10,g11,ab,jL,jM,ko,kq,kx,ky,kz,kA,g12,show ¬((c.aw.length:Int)=d.aw.length) by omega];refine⟨⟨⟨by simp[g2],by simp[g3],by simp[g5],by simp[g6],by simp[g7],by simp[g8]⟩,by simp[g10],by simp[g11]⟩,by rw[<-hv,e9 (λhh:kg s t/\pQ c d e f x y=>a0 hh.2.1)]⟩
  by_cases a1:c.body.length=d.body.length
  case neg=>
   simp[g2,g3,g5,g6,g7,g8,g10,g11,ab,jL,jM,ko,kq,kx,ky,kz,kA,a0,g12,show ¬((c.body.length:Int)=d.body.length) by omega];refine⟨⟨⟨by simp[g2],by simp[g3],by simp[g5],by simp[g6],by simp[g7],by simp[g8]⟩,by simp[g10],by simp[g11]⟩,by rw[<-hv,e9 (λhh:kg s t/\pQ c d e f x y=>a1 hh.2.2.1)]⟩
  by_cases a2:e.aw.length=f.aw.length
  case neg=>
   simp[g2,g3,g5,g6,g7,g8,g10,g11,ab,jL,jM,ko,kq,kx,ky,kz,kA,a0,a1,g12,show ¬((e.aw.length:Int)=f.aw.length) by omega];refine⟨⟨⟨by simp[g2],by simp[g3],by simp[g5],by simp[g6],by simp[g7],by simp[g8]⟩,by simp[g10],by simp[g11]⟩,by rw[<-hv,e9 (λhh:kg s t/\pQ c d e f x y=>a2 hh.2.2.2.1)]⟩
  by_cases a3:x.args.length=y.args.length
  case neg=>
   simp[g2,g3,g5,g6,g7,g8,g10,g11,ab,jL,jM,ko,kq,kx,ky,kz,kA,a0,a1,a2,g12,show ¬((x.args.length:Int)=y.args.length) by omega];refine⟨⟨⟨by simp[g2],by simp[g3],by simp[g5],by simp[g6],by simp[g7],by simp[g8]⟩,by simp[g10],by simp[g11]⟩,by rw[<-hv,e9 (λhh:kg s t/\pQ c d e f x y=>a3 hh.2.2.2.2)]⟩
  simp[g2,g3,g5,g6,g7,g8,g10,g11,ab,jL,jM,ko,kq,kx,ky,kz,kA,a0,a1,a2,a3,g12];refine⟨⟨⟨by simp[g2],by simp[g3],by simp[g5],by simp[g6],by simp[g7],by simp[g8]⟩,by simp[g10],by simp[g11]⟩,by rw[<-hv,pf ⟨b0,a0,a1,a2,a3⟩]⟩
 clear g2 g3 g5 g6 g7 g8 g10 g11 g12 E;rintro E U ⟨⟨⟨g2,g3,g5,g6,g7,g8⟩,g10,g11⟩,g12,hU⟩;rw[hU];clear hU U;refine cS (λE U=>HI E/\E.get 12=some (.bool (decide (kg s t/\pQ c d e f x y)))/\E.get 13=some (.bool (decide (qV s t)))/\U=S8) ?_ ?_
 .generalize hv:decide (qV s t)=v;generalize decide (kg s t/\pQ c d e f x y)=v12 at *;by_cases a0:s.kind=t.kind
  case neg=>
   simp[g2,g3,g5,g6,g7,g8,g10,g11,ab,jL,jM,ko,kq,kx,ky,kz,kA,a0];refine⟨⟨⟨by simp[g2],by simp[g3],by simp[g5],by simp[g6],by simp[g7],by simp[g8]⟩,by simp[g10],by simp[g11]⟩,by simp[g12],by rw[<-hv,e9 (λhh:qV s t=>a0 hh.1)]⟩
  by_cases a1:s.text=t.text
  case neg=>
   simp[g2,g3,g5,g6,g7,g8,g10,g11,ab,jL,jM,ko,kq,kx,ky,kz,kA,a0,a1];refine⟨⟨⟨by simp[g2],by simp[g3],by simp[g5],by simp[g6],by simp[g7],by simp[g8]⟩,by simp[g10],by simp[g11]⟩,by simp[g12],by rw[<-hv,e9 (λhh:qV s t=>a1 hh.2.1)]⟩
  simp[g2,g3,g5,g6,g7,g8,g10,g11,ab,jL,jM,ko,kq,kx,ky,kz,kA,a0,a1];refine aZ (qkB s.labels t.labels hO.labels.1 _) ?_;by_cases a2:s.labels=t.labels
  case neg=>
   simp[a2];refine⟨⟨⟨by simp[g2],by simp[g3],by simp[g5],by simp[g6],by simp[g7],by simp[g8]⟩,by simp[g10],by simp[g11]⟩,by simp[g12],by rw[<-hv,e9 (λhh:qV s t=>a2 hh.2.2)]⟩
  simp[g2,g3,g5,g6,g7,g8,g10,g11,ab,jL,jM,ko,kq,kx,ky,kz,kA,a0,a1,a2];refine⟨⟨⟨by simp[g2],by simp[g3],by simp[g5],by simp[g6],by simp[g7],by simp[g8]⟩,by simp[g10],by simp[g11]⟩,by simp[g12],by rw[<-hv,pf ⟨a0,a1,a2⟩]⟩
 clear g2 g3 g5 g6 g7 g8 g10 g11 g12 E;rintro E U ⟨⟨⟨g2,g3,g5,g6,g7,g8⟩,g10,g11⟩,g12,g13,hU⟩;rw[hU];clear hU U;refine cS (λE U=>HI E/\E.get 12=some (.bool (decide (kg s t/\pQ c d e f x y)))/\E.get 13=some (.bool (decide (qV s t)))/\E.get 14=some (.bool (decide (rP c d)))/\U=S8) ?_ ?_
 .generalize hv:decide (rP c d)=v;generalize decide (kg s t/\pQ c d e f x y)=v12 at *;generalize decide (qV s t)=v13 at *;by_cases a0:c.kind=d.kind
  case neg=>
   simp[g2,g3,g5,g6,g7,g8,g10,g11,ab,jL,jM,ko,kq,kx,ky,kz,kA,gj,fH,a0];refine⟨⟨⟨by simp[g2],by simp[g3],by simp[g5],by simp[g6],by simp[g7],by simp[g8]⟩,by simp[g10],by simp[g11]⟩,by simp[g12],by simp[g13],by rw[<-hv,e9 (λhh:rP c d=>a0 hh.1)]⟩
  by_cases a1:c.own=d.own
  case neg=>
   simp[g2,g3,g5,g6,g7,g8,g10,g11,ab,jL,jM,ko,kq,kx,ky,kz,kA,a0,gj,fH,gj,fH,show(c.own==d.own)=false by simpa using a1];refine⟨⟨⟨by simp[g2],by simp[g3],by simp[g5],by simp[g6],by simp[g7],by simp[g8]⟩,by simp[g10],by simp[g11]⟩,by simp[g12],by simp[g13],by rw[<-hv,e9 (λhh:rP c d=>a1 hh.2.1)]⟩
  by_cases a2:c.type=d.type
  case neg=>
   simp[g2,g3,g5,g6,g7,g8,g10,g11,ab,jL,jM,ko,kq,kx,ky,kz,kA,a0,a1,gj,fH,gj,fH,a2];refine⟨⟨⟨by simp[g2],by simp[g3],by simp[g5],by simp[g6],by simp[g7],by simp[g8]⟩,by simp[g10],by simp[g11]⟩,by simp[g12],by simp[g13],by rw[<-hv,e9 (λhh:rP c d=>a2 hh.2.2.1)]⟩
  simp[g2,g3,g5,g6,g7,g8,g10,g11,ab,jL,jM,ko,kq,kx,ky,kz,kA,a0,a1,a2,gj,fH];refine aZ (qkB c.names d.names hP.names.1 _) ?_;by_cases a3:c.names=d.names
  case neg=>
   simp[a3];refine⟨⟨⟨by simp[g2],by simp[g3],by simp[g5],by simp[g6],by simp[g7],by simp[g8]⟩,by simp[g10],by simp[g11]⟩,by simp[g12],by simp[g13],by rw[<-hv,e9 (λhh:rP c d=>a3 hh.2.2.2)]⟩
  simp[g2,g3,g5,g6,g7,g8,g10,g11,ab,jL,jM,ko,kq,kx,ky,kz,kA,a0,a1,a2,a3,gj,fH];refine⟨⟨⟨by simp[g2],by simp[g3],by simp[g5],by simp[g6],by simp[g7],by simp[g8]⟩,by simp[g10],by simp[g11]⟩,by simp[g12],by simp[g13],by rw[<-hv,pf ⟨a0,a1,a2,a3⟩]⟩
 clear g2 g3 g5 g6 g7 g8 g10 g11 g12 g13 E;rintro E U ⟨⟨⟨g2,g3,g5,g6,g7,g8⟩,g10,g11⟩,g12,g13,g14,hU⟩;rw[hU];clear hU U;refine cS (λE U=>HI E/\E.get 12=some (.bool (decide (kg s t/\pQ c d e f x y)))/\E.get 13=some (.bool (decide (qV s t)))/\E.get 14=some (.bool (decide (rP c d)))/\E.get 15=some (.bool (decide (sY x y)))/\U=S8) ?_ ?_
 .generalize hv:decide (sY x y)=v;generalize decide (kg s t/\pQ c d e f x y)=v12 at *;generalize decide (qV s t)=v13 at *;generalize decide (rP c d)=v14 at *;by_cases a0:x.kind=y.kind
  case neg=>
   simp[g2,g3,g5,g6,g7,g8,g10,g11,ab,jL,jM,ko,kq,kx,ky,kz,kA,bI,pg,a0];refine⟨⟨⟨by simp[g2],by simp[g3],by simp[g5],by simp[g6],by simp[g7],by simp[g8]⟩,by simp[g10],by simp[g11]⟩,by simp[g12],by simp[g13],by simp[g14],by rw[<-hv,e9 (λhh:sY x y=>a0 hh.1)]⟩
  by_cases a1:x.op=y.op
  case neg=>
   simp[g2,g3,g5,g6,g7,g8,g10,g11,ab,jL,jM,ko,kq,kx,ky,kz,kA,a0,bI,pg,a1];refine⟨⟨⟨by simp[g2],by simp[g3],by simp[g5],by simp[g6],by simp[g7],by simp[g8]⟩,by simp[g10],by simp[g11]⟩,by simp[g12],by simp[g13],by simp[g14],by rw[<-hv,e9 (λhh:sY x y=>a1 hh.2.1)]⟩
  by_cases a2:x.n=y.n
  case neg=>
   simp[g2,g3,g5,g6,g7,g8,g10,g11,ab,jL,jM,ko,kq,kx,ky,kz,kA,a0,a1,bI,pg,a2];refine⟨⟨⟨by simp[g2],by simp[g3],by simp[g5],by simp[g6],by simp[g7],by simp[g8]⟩,by simp[g10],by simp[g11]⟩,by simp[g12],by simp[g13],by simp[g14],by rw[<-hv,e9 (λhh:sY x y=>a2 hh.2.2.1)]⟩
  by_cases a3:x.dQ=y.dQ/\x.exp=y.exp
  case neg=>
   simp[g2,g3,g5,g6,g7,g8,g10,g11,ab,jL,jM,ko,kq,kx,ky,kz,kA,a0,a1,a2,bI,pg,bI,pg,a3];refine⟨⟨⟨by simp[g2],by simp[g3],by simp[g5],by simp[g6],by simp[g7],by simp[g8]⟩,by simp[g10],by simp[g11]⟩,by simp[g12],by simp[g13],by simp[g14],by rw[<-hv,e9 (λhh:sY x y=>a3 hh.2.2.2.1)]⟩
  by_cases a4:x.text=y.text
  case neg=>
   simp[g2,g3,g5,g6,g7,g8,g10,g11,ab,jL,jM,ko,kq,kx,ky,kz,kA,a0,a1,a2,a3,bI,pg,bI,pg,a4];refine⟨⟨⟨by simp[g2],by simp[g3],by simp[g5],by simp[g6],by simp[g7],by simp[g8]⟩,by simp[g10],by simp[g11]⟩,by simp[g12],by simp[g13],by simp[g14],by rw[<-hv,e9 (λhh:sY x y=>a4 hh.2.2.2.2)]⟩
  simp[g2,g3,g5,g6,g7,g8,g10,g11,ab,jL,jM,ko,kq,kx,ky,kz,kA,a0,a1,a2,a3,a4,bI,pg];refine⟨⟨⟨by simp[g2],by simp[g3],by simp[g5],by simp[g6],by simp[g7],by simp[g8]⟩,by simp[g10],by simp[g11]⟩,by simp[g12],by simp[g13],by simp[g14],by rw[<-hv,pf ⟨a0,a1,a2,a3,a4⟩]⟩
 clear g2 g3 g5 g6 g7 g8 g10 g11 g12 g13 g14 E;rintro E U ⟨⟨⟨g2,g3,g5,g6,g7,g8⟩,g10,g11⟩,g12,g13,g14,g15,hU⟩;rw[hU];clear hU U
 have AZ:res=(decide (kg s t/\pQ c d e f x y)&&decide (qV s t)&&decide (rP c d)&&decide (e.kind=f.kind)&&decide (sY x y)):=by
  rw[<-A7,eR];rw[dT,cT,cT,cT,cT,dT,dT,dT,dT,dT];unfold yV;constructor
  .rintro⟨_,h2,h3,h4,h5,h6⟩;exact⟨⟨⟨⟨h2,h3⟩,h4⟩,h5⟩,h6⟩
  .rintro⟨⟨⟨⟨h2,h3⟩,h4⟩,h5⟩,h6⟩;exact⟨⟨iK,FX⟩,h2,h3,h4,h5,h6⟩
 generalize decide (kg s t/\pQ c d e f x y)=v12 at *;generalize decide (qV s t)=v13 at *;generalize decide (rP c d)=v14 at *;generalize decide (sY x y)=v15 at *
 cases v12 with
 |false=>simp[g12];exact aQ (r:=by rw[AZ];rfl)
 |true=>
  cases v13 with
  |false=>simp[g12,g13];exact aQ (r:=by rw[AZ];rfl)
  |true=>
   cases v14 with
   |false=>simp[g12,g13,g14];exact aQ (r:=by rw[AZ];rfl)
   |true=>
    by_cases he:e.kind=f.kind
    .simp[g2,g3,ab,jL,jM,g12,g13,g14,g15,he];exact aQ (r:=by rw[AZ];simp[aY,he])
    .simp[g2,g3,ab,jL,jM,g12,g13,g14,g15,he];exact aQ (r:=by rw[AZ];simp[aY,he])
def qxI(m e:Int):∀S,Fn prog 226 [.agg [af m,af e]] S (.bool (xn m e)):=by
 refine Pu.intro (R:=λv=>v=.bool (xn m e)) um.g um.o (qA rfl) (by simp[V.under,V.dr]) (by rintro v rfl;rfl) ?_;have hr:xn m e=(decide (m=0/\e=0)||(decide (1<=qj m/\qj m<16777216)&&(decide (e=-150)||(decide (8388608<=qj m)&&decide (-150<e/\e<=150))))):=rfl;generalize A7:xn m e=r at hr |-
 have fin:∀a:Int,qj m=a->¬a=0->r=(decide (1<=a/\a<16777216)&&(decide (e=-150)||(decide (8388608<=a)&&decide (-150<e/\e<=150)))):=λa ha h0=>by
  have hm:¬(m=0/\e=0):=λh=>h0 (by rw[<-ha,h.1];rfl)
  rw[hr,e9 hm,ha];rfl
 have key:∀(E:ae) (S:St) (a:Int),qj m=a->E.get 3=some (af a)->E.get 1=some (ag 0)->S=[.arr [.agg [af m,af e]] 2 1]->
   WP prog (match um.c.body with|.seq _ (.seq _ (.seq _ b))=>b|x=>x) (eN [.t 2] 0 λv U=>v=.bool r/\U=[]) E S:=by
  rintro E S a ha g3 g1 rfl;by_cases h0:a=0
  .have hr0:r=decide (m=0/\e=0):=by
    rw[hr,ha,h0];simp
   by_cases hm:m=0
   .simp[um,g3,g1,h0,ab,hm];exact aQ (r:=by rw[hr0];simp[aY,hm])
   .simp[um,g3,g1,h0,ab,hm];exact aQ (r:=by rw[hr0];simp[aY,hm])
  have hf:=fin a ha h0;by_cases h1:a<0
  .simp[um,g3,g1,h0,h1,ab];exact aQ (r:=by rw[hf];simp[aY];omega)
  by_cases h2:16777216<=a
  .simp[um,g3,g1,h0,h1,h2,ab];exact aQ (r:=by rw[hf];simp[aY];omega)
  by_cases h3:e< -150
  .simp[um,g3,g1,h0,h1,h2,h3,ab];exact aQ (r:=by rw[hf];simp[aY];omega)
  by_cases h4:150<e
  .simp[um,g3,g1,h0,h1,h2,h3,h4,ab];exact aQ (r:=by rw[hf];simp[aY];omega)
  by_cases h5:8388608<=a
  .simp[um,g3,g1,h0,h1,h2,h3,h4,h5,ab];exact aQ (r:=by rw[hf];simp[aY];omega)
  .simp[um,g3,g1,h0,h1,h2,h3,h4,h5,ab];refine fB rfl ?_ rfl;rw[hf];simp only[aY,V.bool.injEq];rw[eR];simp;omega
 by_cases hm:m<0
 .have ha:qj m=IntKind.i64.wrap (-m):=by unfold qj;rw[ak hm]
  have k:=λE S=>key E S _ ha
  simp only[um,fW]at k |-;refine cS (λE S=>E.get 1=some (ag 0)/\S=[.arr [.agg [af m,af e]] 2 1]) (by simp[aL,jV]) ?_;rintro E S ⟨g1,rfl⟩;refine cS (λE S=>E.get 1=some (ag 0)/\E.get 3=some (af m)/\S=[.arr [.agg [af m,af e]] 2 1]) (by simp[g1,ab]) ?_;rintro E S ⟨g1,g3,rfl⟩;refine cS (λE S=>E.get 1=some (ag 0)/\E.get 3=some (af (IntKind.i64.wrap (-m)))/\S=[.arr [.agg [af m,af e]] 2 1]) (by simp[g1,g3,hm]) ?_;rintro E S ⟨g1,g3,rfl⟩;exact k E _ g3 g1 rfl
 .have ha:qj m=m:=by unfold qj;rw[au hm]
  have k:=λE S=>key E S _ ha
  simp only[um,fW]at k |-;refine cS (λE S=>E.get 1=some (ag 0)/\S=[.arr [.agg [af m,af e]] 2 1]) (by simp[aL,jV]) ?_;rintro E S ⟨g1,rfl⟩;refine cS (λE S=>E.get 1=some (ag 0)/\E.get 3=some (af m)/\S=[.arr [.agg [af m,af e]] 2 1]) (by simp[g1,ab]) ?_;rintro E S ⟨g1,g3,rfl⟩;refine cS (λE S=>E.get 1=some (ag 0)/\E.get 3=some (af m)/\S=[.arr [.agg [af m,af e]] 2 1]) (by simp[g1,g3,hm]) ?_;rintro E S ⟨g1,g3,rfl⟩;exact k E _ g3 g1 rfl
def qxJ(s:Bz)(hs:s.size<=bi):∀S,Fn prog 227 [.str s] S (.bool (Br s)):=by
 refine Pu.ib qbG ?_;unfold bi at hs;have hp:Br s=(zN s.data.toList && decide (s.size≤80)):=rfl;generalize hpr:Br s=pr at hp ⊢;simp only[qbG,fW];simp;refine cE (λj e S'=>∃i:Nat,j=s.size - i∧i≤s.size∧zN (s.data.toList.take i)=true∧
  e=[(3,af i),(0,.str s)]) s.size _ ?_ ⟨0,sM,oM,rfl,rfl⟩ ?_
 .exact ba
 rintro j e S' ⟨i,rfl,hi,hq,rfl⟩;by_cases h:i<s.size
 .have hb:s.data.toList[i]?=some (s.data[i]'h):=by simp[h]
  generalize hx:s.data[i]'h=x at hb;have eI:yw s i=some (.int .u8 x.toNat):=by rw[<-hx];exact Nv h
  have aB:=x.toNat_lt
  have cB:yH x=false->pr=false:=λhh=>by
   rw[hp,OY];left
   cases ha:zN s.data.toList with
   |false=>rfl
   |true=>
    unfold zN at ha;rw[fR]at ha;rw[ha x (dZ hb)]at hh;cases hh
  by_cases h1:(x.toNat:Int)<32
  .simp[h,eI,h1];refine fB rfl ?_ rfl;rw[cB (by unfold yH;simp;omega)];rfl
  by_cases h2:(126:Int)<x.toNat
  .simp[h,eI,h1,h2];refine fB rfl ?_ rfl;rw[cB (by unfold yH;simp;omega)];rfl
  by_cases h3:(x.toNat:Int)=34
  .simp[h,eI,h3];refine fB rfl ?_ rfl;rw[cB (by unfold yH;simp;omega)];rfl
  simp[h,eI,h1,h2,h3,cG i];refine⟨_,?_,_,?_,i+1,rfl,oM,?_,rfl⟩
  .omega
  .exact ba
  .unfold zN at *;rw[dN,KD,hq,hb];simp[yH];omega
 .simp[h];have bF:s.data.toList.length=s.size:=rfl;rw[mJ oM]at hq;refine fB rfl ?_ rfl;rw[hp,hq];simp only[aY,V.bool.injEq,rO,decide_eq_decide];omega
def qxT(x:Ex):∀S,Fn prog 257 [x.v] S (.bool x.mE):=by
 refine Pu.ib TU ?_;by_cases h6:x.kind=6
 .simp[TU,aL,ab,h6];exact aQ (r:=by simp[aY,Ex.mE,h6])
 .simp[TU,aL,ab,h6];exact aQ (r:=by simp[aY,Ex.mE,h6])
def S5(n lo hi:Int):∀S,Fn prog 224 [af n,af lo,af hi] S (.bool (decide (lo<=n)&&decide (n<=hi))):=by
 refine Pu.ib TP ?_;by_cases h:lo<=n
 .simp[TP,h];exact aQ (r:=rfl)
 .simp[TP,h];exact aQ (r:=rfl)
def iu{α:Type}(l:List α)(q:α->Bool):Bool:=l.all q
def qxG(l:List Ex)(hl:l.length<=bi):∀S,Fn prog 222 [ah (l.map Ex.v)] S (.bool (iu l Ex.mE&&decide (0<l.length))):=by
 refine Pu.ib qbD ?_;unfold bi at hl;simp only[qbD,fW];simp;refine cE (λj e S'=>∃i:Nat,j=l.length - i∧i≤l.length∧iu (l.take i) Ex.mE=true∧
  e=[(3,af i),(0,ah (l.map Ex.v))]) l.length _ ?_ ⟨0,sM,oM,rfl,rfl⟩ ?_
 .exact ba
 rintro j e S' ⟨i,rfl,hi,hq,rfl⟩;by_cases h:i<l.length
 .simp[h,qJ];refine aZ (qxT l[i] _) ?_
  cases hx:Ex.mE l[i] with
  |false=>
   simp;refine fB rfl ?_ rfl
   have:iu l Ex.mE=false:=by
    cases ha:iu l Ex.mE with
    |false=>rfl
    |true=>
     unfold iu at ha;rw[fR]at ha;rw[ha _ (dz h)]at hx;cases hx
   rw[this];rfl
  |true=>
   simp[cG i];refine⟨_,?_,_,?_,i+1,rfl,oM,?_,rfl⟩
   .omega
   .exact ba
   .unfold iu at *;rw[dN,bX h,KD,hq];simp[hx]
 .simp[h];rw[mJ oM]at hq;refine fB rfl ?_ rfl;rw[hq];simp[aY]
def qky(l:List Bz)(hl:l.length<=bi):∀S,Fn prog 223 [ah (l.map V.str)] S (.bool (iu l aH)):=by
 refine Pu.ib qbE ?_;unfold bi at hl;simp only[qbE,fW];simp;refine cE (λj e S'=>∃i:Nat,j=l.length - i∧i≤l.length∧iu (l.take i) aH=true∧
  e=[(3,af i),(0,ah (l.map V.str))]) l.length _ ?_ ⟨0,sM,oM,rfl,rfl⟩ ?_
 .exact ba
 rintro j e S' ⟨i,rfl,hi,hq,rfl⟩;by_cases h:i<l.length
 .simp[h,oR];refine aZ (vE l[i] _) ?_
  cases hx:aH l[i] with
  |false=>
   simp;refine fB rfl ?_ rfl
   have:iu l aH=false:=by
    cases ha:iu l aH with
    |false=>rfl
    |true=>
     unfold iu at ha;rw[fR]at ha;rw[ha _ (dz h)]at hx;cases hx
   rw[this];rfl
  |true=>
   simp[cG i];refine⟨_,?_,_,?_,i+1,rfl,oM,?_,rfl⟩
   .omega
   .exact ba
   .unfold iu at *;rw[dN,bX h,KD,hq];simp[hx]
 .simp[h];rw[mJ oM]at hq;refine fB rfl ?_ rfl;rw[hq];rfl
def qxU(f:Fo):∀S,Fn prog 258 [f.v] S (.bool (f.bp aH)):=by
 refine Pu.ib nj ?_;have hv:f.bp aH=((if f.spec=0∨f.spec=3∨f.spec=4∨f.spec=5 then decide (f.type=0) && !f.value
   else if f.spec=1 then decide (1<=f.type/\f.type<=3)
   else if f.spec=2 then decide (0<=f.type/\f.type<=3)&&(!f.value||decide (f.type≠0))
   else if f.spec=6 then decide (0<=f.type/\f.type<=3)&&!f.value
   else false)&&aH f.name):=by unfold Fo.bp;rw[Bool.and_comm]
 generalize f.bp aH=r at hv |-;by_cases h0:f.spec=0
 .simp only[h0]at hv;by_cases ht:f.type=0
  case neg=>
   cases cF:f.value
   case false=>
    simp[nj,aL,ab,h0,ht,cF];exact aQ (r:=by rw[hv];simp[aY,ht])
   simp[nj,aL,ab,h0,ht,cF];exact aQ (r:=by rw[hv];simp[aY,ht])
  cases cF:f.value
  case true=>
   simp[nj,aL,ab,h0,ht,cF];exact aQ (r:=by rw[hv];simp[aY,cF])
  simp[nj,aL,ab,h0,ht,cF];refine aZ (vE f.name _) ?_;cases hn:aH f.name
  case false=>
   simp;exact aQ (r:=by rw[hv];simp[aY,hn])
  simp;exact aQ (r:=by rw[hv];simp[aY,hn,ht,cF])
 by_cases h3:f.spec=3
 .simp only[h3]at hv;by_cases ht:f.type=0
  case neg=>
   cases cF:f.value
   case false=>
    simp[nj,aL,ab,h3,ht,cF];exact aQ (r:=by rw[hv];simp[aY,ht])
   simp[nj,aL,ab,h3,ht,cF];exact aQ (r:=by rw[hv];simp[aY,ht])
  cases cF:f.value
  case true=>
   simp[nj,aL,ab,h3,ht,cF];exact aQ (r:=by rw[hv];simp[aY,cF])
  simp[nj,aL,ab,h3,ht,cF];refine aZ (vE f.name _) ?_;cases hn:aH f.name
  case false=>
   simp;exact aQ (r:=by rw[hv];simp[aY,hn])
  simp;exact aQ (r:=by rw[hv];simp[aY,hn,ht,cF])
 by_cases h4:f.spec=4
 .simp only[h4]at hv;by_cases ht:f.type=0
  case neg=>
   cases cF:f.value
   case false=>
    simp[nj,aL,ab,h4,ht,cF];exact aQ (r:=by rw[hv];simp[aY,ht])
   simp[nj,aL,ab,h4,ht,cF];exact aQ (r:=by rw[hv];simp[aY,ht])
  cases cF:f.value
  case true=>
   simp[nj,aL,ab,h4,ht,cF];exact aQ (r:=by rw[hv];simp[aY,cF])
  simp[nj,aL,ab,h4,ht,cF];refine aZ (vE f.name _) ?_;cases hn:aH f.name
  case false=>
   simp;exact aQ (r:=by rw[hv];simp[aY,hn])
  simp;exact aQ (r:=by rw[hv];simp[aY,hn,ht,cF])
 by_cases h5:f.spec=5
 .simp only[h5]at hv;by_cases ht:f.type=0
  case neg=>
   cases cF:f.value
   case false=>
    simp[nj,aL,ab,h5,ht,cF];exact aQ (r:=by rw[hv];simp[aY,ht])
   simp[nj,aL,ab,h5,ht,cF];exact aQ (r:=by rw[hv];simp[aY,ht])
  cases cF:f.value
  case true=>
   simp[nj,aL,ab,h5,ht,cF];exact aQ (r:=by rw[hv];simp[aY,cF])
  simp[nj,aL,ab,h5,ht,cF];refine aZ (vE f.name _) ?_;cases hn:aH f.name
  case false=>
   simp;exact aQ (r:=by rw[hv];simp[aY,hn])
  simp;exact aQ (r:=by rw[hv];simp[aY,hn,ht,cF])
 by_cases h1:f.spec=1
 .simp only[h1]at hv;simp[nj,aL,ab,h1];refine aZ (S5 _ _ _ _) ?_;by_cases ht:1<=f.type/\f.type<=3
  case neg=>
   rw[zR ht];cases cF:f.value
   case false=>
    simp[ab,cF];exact aQ (r:=by rw[hv];simp[aY,ht])
   simp[ab,cF];exact aQ (r:=by rw[hv];simp[aY,ht])
  rw[Bw ht];cases cF:f.value
  case false=>
   simp[ab,cF];refine aZ (vE f.name _) ?_;cases hn:aH f.name
   case false=>
    simp;exact aQ (r:=by rw[hv];simp[aY,hn])
   simp;exact aQ (r:=by rw[hv];simp[aY,hn,ht])
  simp[ab,cF,h1,show ¬f.type=0 by omega];refine aZ (vE f.name _) ?_;cases hn:aH f.name
  case false=>
   simp;exact aQ (r:=by rw[hv];simp[aY,hn])
  simp;exact aQ (r:=by rw[hv];simp[aY,hn,ht])
 by_cases h2:f.spec=2
 .simp only[h2]at hv;simp[nj,aL,ab,h2];refine aZ (S5 _ _ _ _) ?_;by_cases ht:0<=f.type/\f.type<=3
  case neg=>
   rw[zR ht];cases cF:f.value
   case false=>
    simp[ab,cF];exact aQ (r:=by rw[hv];simp[aY,ht])
   simp[ab,cF];exact aQ (r:=by rw[hv];simp[aY,ht])
  rw[Bw ht];cases cF:f.value
  case false=>
   simp[ab,cF];refine aZ (vE f.name _) ?_;cases hn:aH f.name
   case false=>
    simp;exact aQ (r:=by rw[hv];simp[aY,hn])
   simp;exact aQ (r:=by rw[hv];simp[aY,hn,ht,cF])
  by_cases DK:f.type=0
  case pos=>
   simp[ab,cF,h2,DK];exact aQ (r:=by rw[hv];simp[aY,cF,DK])
  simp[ab,cF,h2,DK];refine aZ (vE f.name _) ?_;cases hn:aH f.name
  case false=>
   simp;exact aQ (r:=by rw[hv];simp[aY,hn])
  simp;exact aQ (r:=by rw[hv];simp[aY,hn,ht,cF,DK])
 by_cases h6:f.spec=6
 .simp only[h6]at hv;simp[nj,aL,ab,h6];refine aZ (S5 _ _ _ _) ?_;by_cases ht:0<=f.type/\f.type<=3
  case neg=>
   rw[zR ht];cases cF:f.value
   case false=>
    simp[ab,cF];exact aQ (r:=by rw[hv];simp[aY,ht])
   simp[ab,cF];exact aQ (r:=by rw[hv];simp[aY,ht])
  rw[Bw ht];cases cF:f.value
  case false=>
   simp[ab,cF];refine aZ (vE f.name _) ?_;cases hn:aH f.name
   case false=>
    simp;exact aQ (r:=by rw[hv];simp[aY,hn])
   simp;exact aQ (r:=by rw[hv];simp[aY,hn,ht,cF])
  simp[ab,cF,h6];exact aQ (r:=by rw[hv];simp[aY,cF])
 have eV:r=false:=by rw[hv];simp[h0,h1,h2,h3,h4,h5,h6]
 cases cF:f.value
 case false=>
  simp[nj,aL,ab,cF,h0,h1,h2,h3,h4,h5,h6];exact aQ (r:=by rw[eV];rfl)
 simp[nj,aL,ab,cF,h0,h1,h2,h3,h4,h5,h6];exact aQ (r:=by rw[eV];rfl)
def qec(l:List Fo)(i k:Nat):Prop:=∀(j:Nat) (x y:Fo),j<k->l[j]?=some x->l[i]?=some y->¬x.name=y.name
def qxH(l:List Fo)(hl:l.length<=bi):∀S,Fn prog 225 [ah (l.map Fo.v)] S (.bool (fi aH l []&&decide (l.length<=8))):=by
 refine Pu.ib qbF ?_;unfold bi at hl;generalize hr:(fi aH l []&&decide (l.length<=8))=r;have cB:fi aH l []=false->r=false:=λh=>by rw[<-hr,h];rfl
 simp only[qbF,fW];simp;refine eA (λe S=>fi aH l []=true/\e.get 0=some (ah (l.map Fo.v))) ?_ ?_;rotate_left
 .rintro e S ⟨h1,g0⟩;simp[g0];refine fB rfl ?_ rfl;rw[<-hr,h1];simp only[aY,V.bool.injEq,rO,decide_eq_decide];omega
 refine cE (λj e S'=>∃i:Nat,j=l.length - i∧i≤l.length∧fi aH (l.take i) []=true∧
  e=[(3,af i),(0,ah (l.map Fo.v))]) l.length _ ?_ ⟨0,sM,oM,rfl,rfl⟩ ?_
 .exact ba
 rintro j e S' ⟨i,rfl,hi,hq,rfl⟩;by_cases h:i<l.length
 case neg=>
  rw[mJ oM]at hq;simp[h,hq]
 have ir:fi aH (l.take (i+1)) []=(l[i].bp aH&&!((l.take i).map Fo.name).any λx=>decide (x=l[i].name)):=by
  rw[dN,bX h,iP,LC,hq];simp[fi]
 have dq:fi aH l []=true->fi aH (l.take (i+1)) []=true:=λhh=>by
  rw[<-qY (i+1) l,LC,cT]at hh;exact hh.1
 simp[h];refine eA (λe S=>qec l i i/\e.get 3=some (af i)/\e.get 0=some (ah (l.map Fo.v))) ?_ ?_
 ·refine cE (λj e S'=>∃k:Nat,j=i - k∧k≤i∧qec l i k∧
   e=[(4,af k),(3,af i),(0,ah (l.map Fo.v))]) i _ ?_ ⟨0,sM,oM,λj x y hj=>by omega,rfl⟩ ?_
  .exact ba
  rintro j e S' ⟨k,rfl,hk,hd,rfl⟩;by_cases g:k<i
  case neg=>
   have:k=i:=oM;subst this;simp[hd]
  have gl:k<l.length:=oM;by_cases hx:l[k].name=l[i].name
  .simp[g,gl,h,ru,hx,dP,eF,eZ];refine fB rfl ?_ rfl;rw[cB]
   .rfl
   .cases hh:fi aH l [] with
    |false=>rfl
    |true=>
     have h2:=dq hh;rw[ir,cT,CB]at h2
     have:(((l.take i).map Fo.name).any λx=>decide (x=l[i].name))=true:=by
      rw[Am];refine⟨l[k].name,cY.2 ⟨l[k],?_,rfl⟩,by simp[hx]⟩;exact qX.2 ⟨k,by rw[KG,ak g];simp⟩
     rw[this]at h2;cases h2.2
  .simp[g,gl,h,ru,hx,dP,eF,eZ,cG k];refine⟨_,?_,_,?_,k+1,rfl,oM,?_,rfl⟩
   .omega
   .exact ba
   .intro j x y hj h1 h2;by_cases ML:j=k
    .subst ML;rw[bX gl]at h1;cases h1;rw[bX h]at h2;cases h2;exact hx
    .exact hd j x y oM h1 h2
 rintro e U ⟨hd,g3,g0⟩
 have qqc:(((l.take i).map Fo.name).any λx=>decide (x=l[i].name))=false:=by
  cases hh:(((l.take i).map Fo.name).any λx=>decide (x=l[i].name)) with
  |false=>rfl
  |true=>
   rw[Am]at hh;obtain⟨x,h1,h2⟩:=hh;obtain⟨f,h3,rfl⟩:=cY.1 h1;obtain⟨j,hj⟩:=qX.1 h3;rw[KG]at hj;split at hj
   .exact absurd (by simpa using h2) (hd j f l[i] (by assumption) hj (by simp[h]))
   .cases hj
 rw[qqc]at ir;simp[g3,g0,h,ru];refine aZ (qxU l[i] _) ?_
 cases hv:l[i].bp aH with
 |false=>
  rw[hv]at ir;simp;refine fB rfl ?_ rfl;rw[cB]
  .rfl
  .cases hh:fi aH l [] with
   |false=>rfl
   |true=>rw[dq hh]at ir;cases ir
 |true=>
  rw[hv]at ir;simp[g3,cG i];refine⟨_,?_,_,?_,i+1,rfl,oM,ir,rfl⟩
  .omega
  .repeat' first|exact ae.gZ _|refine ae.fp (by simp[g0]) ?_
def zL(t:Bz):decide (t=⟨⟨[]⟩⟩)=iV t:=by
 unfold iV;rw[decide_eq_decide];exact SU
open Classical in
def qlM(x y:Ex):yV 4 4 Sm.z Sm.z De.z De.z El.z El.z x y↔sY x y/\x.args.length=y.args.length:=by
 unfold yV kg pQ qV rP;simp;exact And.comm
def Ex.Hz:Sm.z.ok:=by simp[Sm.z,Sm.ok,Bq,Ex.cH,De.cH,Sm.cH];decide
def De.Hz:De.z.ok:=by simp[De.z,De.ok,Bq,Ex.cH,Sm.cH]
def xH(x:Ex)(E:ae)(U:St):Prop:=∃(ok:Bool) (o n m e:Int) (t:Bz),x.bp aH=(ok&&(decide (x.op=o)&&decide (x.n=n)&&(decide (x.dQ=m)&&decide (x.exp=e))&&decide (x.text=t)))/\E.get 1=some (.ptr 0 0 0 1)/\E.get 3=some (.ptr 1 0 0 1)/\E.get 5=some (.bool ok)/\
 U=[.arr [x.v] 7 1,.arr [.agg [.int .i64 x.kind,.int .i64 o,.int .i64 n,.int .i64 m,.int .i64 e,.str t,.sl true []]] 7 1]
def xH.mk{x:Ex}{E:ae}{ok:Bool}{o n m e k:Int}{t:Bz}(hk:x.kind=k)(h1:E.get 1=some (.ptr 0 0 0 1))(h3:E.get 3=some (.ptr 1 0 0 1))(h5:E.get 5=some (.bool ok))(h:x.bp aH=(ok&&(decide (x.op=o)&&decide (x.n=n)&&(decide (x.dQ=m)&&decide (x.exp=e))&&decide (x.text=t)))):
 xH x E [.arr [x.v] 7 1,.arr [.agg [.int .i64 k,.int .i64 o,.int .i64 n,.int .i64 m,.int .i64 e,.str t,.sl true []]] 7 1]:=⟨_,_,_,_,_,_,h,h1,h3,h5,hk ▸ rfl⟩
open Classical in
def qxu(x:Ex)(hx:x.ok):∀S,Fn prog 192 [x.v] S (.bool (x.bp aH)):=by
 refine Pu.ib qbm ?_;simp only[qbm,fW];refine zb ?_ λ_ _ h=>HS (xH x) h ?_
 .have hv:=Ex.me aH x;simp only[<-zL]at hv;have hc:x.kind=1\/x.kind=2\/x.kind=3\/x.kind=4\/x.kind=5\/x.kind=6\/x.kind=7\/x.kind=8\/x.kind=9\/x.kind=10\/x.kind=11\/¬(1<=x.kind/\x.kind<=11):=oM;rcases hc with h|h|h|h|h|h|h|h|h|h|h| h
  case inr.inr.inr.inr.inr.inr.inr.inr.inr.inr.inr=>
   simp[aL,ab,aI,aU,dL,bP,bR,show ¬x.kind=1 by omega,show ¬x.kind=2 by omega,show ¬x.kind=3 by omega,show ¬x.kind=4 by omega,show ¬x.kind=5 by omega,show ¬x.kind=6 by omega,show ¬x.kind=7 by omega,show ¬x.kind=8 by omega,show ¬x.kind=9 by omega,show ¬x.kind=10 by omega,show ¬x.kind=11 by omega];exact xH.mk rfl rfl rfl rfl (by rw[hv];grind (splits:=16))
  case inl=>
   by_cases h1:0<=x.n<;>by_cases h2:x.n<=2147483647<;>simp[aL,ab,aI,aU,dL,bP,bR,h,h1,h2]<;>exact xH.mk h rfl rfl rfl (by rw[hv,eR];simp[h]<;>grind)
  case inr.inr.inr.inr.inr.inr.inr.inr.inl=>
   by_cases h1:x.op=1<;>by_cases h2:x.op=2<;>simp[aL,ab,aI,aU,dL,bP,bR,h,h1,h2]<;>exact xH.mk h rfl rfl rfl (by rw[hv,eR];simp[h]<;>grind)
  case inr.inr.inr.inr.inr.inr.inr.inr.inr.inl=>
   by_cases h1:3<=x.op<;>by_cases h2:x.op<=18<;>simp[aL,ab,aI,aU,dL,bP,bR,h,h1,h2]<;>exact xH.mk h rfl rfl rfl (by rw[hv,eR];simp[h]<;>grind)
  all_goals simp[aL,ab,aI,aU,dL,bP,bR,h]
  case inr.inr.inl|inr.inr.inr.inl|inr.inr.inr.inr.inr.inr.inr.inr.inr.inr.inl=>exact xH.mk h rfl rfl rfl (by rw[hv,eR];simp[h]<;>grind)
  case inr.inl=>
   refine aZ (qxI _ _ _) ?_;cases h1:xn x.dQ x.exp<;>by_cases h2:0<=x.dQ<;>simp[aL,ab,aI,aU,dL,bP,bR,h2]<;>exact xH.mk h rfl rfl rfl (by rw[hv,eR];simp[h]<;>grind)
  case inr.inr.inr.inr.inl=>
   refine aZ (qxJ _ (Ex.qho hx) _) ?_;cases h1:Br x.text<;>simp[aL,ab,aI,aU,dL,bP,bR]<;>exact xH.mk h rfl rfl rfl (by rw[hv,eR];simp[h]<;>grind)
  case inr.inr.inr.inr.inr.inl|inr.inr.inr.inr.inr.inr.inl|inr.inr.inr.inr.inr.inr.inr.inl=>
   refine aZ (vE _ _) ?_;cases h1:aH x.text<;>by_cases h2:(1:Int)<=x.args.length<;>simp[aL,ab,aI,aU,dL,bP,bR,h2]<;>exact xH.mk h rfl rfl rfl (by rw[hv,eR];simp[h]<;>grind)
 rintro E U ⟨ok,o,n,m,e,t,hr,g1,g3,g5,rfl⟩;have hy:(Ex.mk x.kind o n m e t x.args).v=.agg [.int .i64 x.kind,.int .i64 o,.int .i64 n,.int .i64 m,.int .i64 e,.str t,.sl false (x.args.map Ex.v)]:=Ex.eW _;generalize qh:Ex.mk x.kind o n m e t x.args=y at hy
 cases ok with
 |false=>
  simp[g1,g3,g5,ab,aI,aU,dP,eF,eZ];exact aQ (r:=by rw[hr];rfl)
 |true=>
  simp[g1,g3,g5,ab,aI,aU,dL];refine nG (Zs x _) ?_;simp[g3,ab,dL];have h2:=Zs y [.arr [x.v] 7 1,.arr [.agg [.int .i64 x.kind,.int .i64 o,.int .i64 n,.int .i64 m,.int .i64 e,.str t,.sl false (x.args.map Ex.v)]] 7 1];rw[hy]at h2;refine nG h2 ?_;simp;refine nG (S4 4 4 Sm.z Sm.z De.z De.z El.z El.z x y Ex.Hz De.Hz _) ?_;simp[dP,eF,eZ,g3,ab,dL];refine fB rfl ?_ rfl;rw[hr];simp only[aY,V.bool.injEq,rO];rw[eR,dT,qlM,<-qh];rw[cT,cT,cT,cT,dT,dT,dT,dT,dT];unfold sY;constructor
  .rintro⟨⟨_,h2,h3,h4,h5⟩,_⟩;exact⟨⟨⟨h2,h3⟩,h4⟩,h5⟩
  .rintro⟨⟨⟨h2,h3⟩,h4⟩,h5⟩;exact⟨⟨rfl,h2,h3,h4,h5⟩,rfl⟩
open Classical in
def qlL(s t:Sm):yV 1 1 s t De.z De.z El.z El.z Ex.z Ex.z↔kg s t/\qV s t:=by
 unfold yV pQ rP sY;simp
open Classical in
def qlK(c d:De):yV 2 2 Sm.z Sm.z c d El.z El.z Ex.z Ex.z↔c.aj=d.aj/\(c.aw.length=d.aw.length/\c.body.length=d.body.length)/\rP c d:=by
 unfold yV kg pQ qV sY;simp
theorem Au{α:Type}{l:List α}(q:α->Bool)(h:l.length=0):l.all q=true:=by
 rw[KE h];rfl
def Sm.me(nm:Bz→Bool)(s:Sm):s.bp nm=(s.labels.all nm && s.targets.all Ex.mE &&
 (if s.kind=1 then decide (s.targets.length=0) && decide (s.aw.length=0) && decide (s.elems.length=0) && decide (s.decls.length=0) && decide (s.body.length=0) && iV s.text
  else if s.kind=2 then decide (1<=s.targets.length)&&decide (s.aw.length=1)&&decide (s.elems.length=0)&&decide (s.decls.length=0)&&decide (s.body.length=0)&&iV s.text
  else if s.kind=3 then decide (s.targets.length=0)&&decide (s.aw.length=1)&&decide (s.elems.length=0)&&decide (s.decls.length=0)&&decide (s.body.length=0)&&iV s.text
  else if s.kind=4 then decide (s.targets.length=0)&&decide (s.aw.length=1)&&decide (s.elems.length=0)&&decide (s.decls.length=0)&&decide (1<=s.body.length/\s.body.length<=2)&&iV s.text&&Sm.tO s.body
  else if s.kind=5 then decide (s.targets.length=1)&&decide (s.aw.length=0)&&decide (1<=s.elems.length)&&decide (s.decls.length=0)&&decide (s.body.length=1)&&iV s.text
  else if s.kind=6 then decide (s.targets.length=0)&&decide (s.aw.length<=8)&&decide (s.elems.length=0)&&decide (s.decls.length=0)&&decide (s.body.length=0)&&nm s.text
  else if s.kind=7 then decide (s.targets.length=0)&&decide (s.aw.length=0)&&decide (s.elems.length=0)&&decide (1<=s.decls.length)&&decide (1<=s.body.length)&&iV s.text
  else if s.kind=8 then decide (s.targets.length=0)&&decide (s.aw.length=0)&&decide (s.elems.length=0)&&decide (s.decls.length=0)&&decide (1<=s.body.length)&&iV s.text
  else false)):=by cases s;rfl
def uG(s:Sm)(E:ae)(U:St):Prop:=∃(ok:Bool) (t:Bz) (b3 b4 b5 b6 b7:Bool) (g e:List Ex) (f:List El) (d:List De) (b:List Sm),s.bp aH=(ok&&(s.labels.all aH&&(decide (s.targets.length=g.length)&&decide (s.aw.length=e.length)&&decide (s.elems.length=f.length)&&decide (s.decls.length=d.length)&&decide (s.body.length=b.length)&&decide (s.text=t))))/\E.get 1=some (.ptr 0 0 0 1)/\E.get 3=some (.ptr 1 0 0 1)/\E.get 6=some (.bool ok)/\
 U=[.arr [s.v] 8 1,.arr [.agg [.sl false (s.labels.map .str),.int .i64 s.kind,.str t,.sl b3 (g.map Ex.v),.sl b4 (e.map Ex.v),.sl b5 (f.map El.v),.sl b6 (d.map De.v),.sl b7 (b.map Sm.v)]] 8 1]
def uG.mk{s:Sm}{E:ae}{ok:Bool}{k:Int}{t:Bz}{b3 b4 b5 b6 b7:Bool}(g e:List Ex)(f:List El)(d:List De)(b:List Sm)(hk:s.kind=k)(h1:E.get 1=some (.ptr 0 0 0 1))(h3:E.get 3=some (.ptr 1 0 0 1))(h6:E.get 6=some (.bool ok))(h:s.bp aH=(ok&&(s.labels.all aH&&(decide (s.targets.length=g.length)&&decide (s.aw.length=e.length)&&decide (s.elems.length=f.length)&&decide (s.decls.length=d.length)&&decide (s.body.length=b.length)&&decide (s.text=t))))):
 uG s E [.arr [s.v] 8 1,.arr [.agg [.sl false (s.labels.map .str),.int .i64 k,.str t,.sl b3 (g.map Ex.v),.sl b4 (e.map Ex.v),.sl b5 (f.map El.v),.sl b6 (d.map De.v),.sl b7 (b.map Sm.v)]] 8 1]:=⟨_,_,_,_,_,_,_,g,e,f,d,b,h,h1,h3,h6,by rw[hk]⟩
open Classical in
def qxr(s:Sm)(hs:s.ok):∀S,Fn prog 189 [s.v] S (.bool (s.bp aH)):=by
 refine Pu.ib qbk ?_;have hO:=(Sm.fh s).1 hs;simp only[qbk,fW];refine zb ?_ λ_ _ h=>zb h λ_ _ h=>HS (uG s) h ?_
 .have hc:s.kind=1\/s.kind=2\/s.kind=3\/s.kind=4\/s.kind=5\/s.kind=6\/s.kind=7\/s.kind=8\/¬(1<=s.kind/\s.kind<=8):=oM;rcases hc with h|h|h|h|h|h|h|h| h
  case inr.inr.inr.inr.inr.inr.inr.inr=>
   simp[aL,ab,aI,aU,dL,bP,bR,show s.kind≠1 by omega,show s.kind≠2 by omega,show s.kind≠3 by omega,show s.kind≠4 by omega,show s.kind≠5 by omega,show s.kind≠6 by omega,show s.kind≠7 by omega,show s.kind≠8 by omega];exact uG.mk [] [] [] [] [] rfl rfl rfl rfl (by rw[Sm.me];grind (splits:=16))
  case inr.inr.inr.inl=>
   by_cases h1:s.aw.length=1/\1<=s.body.length/\s.body.length<=2
   case neg=>
    by_cases h2:(s.aw.length:Int)=1<;>by_cases h3:(1:Int)<=s.body.length<;>by_cases h4:(s.body.length:Int)<=2
    all_goals first|omega|(simp[aL,ab,aI,aU,dL,bP,bR,h,h2,h3,h4];exact uG.mk [] s.aw [] [] s.body h rfl rfl rfl (by rw[Sm.me,<-zL,eR];simp[h]<;>grind [Au,iu]))
   have h0:0<s.body.length:=h1.2.1;by_cases h5:s.body[0].kind=4<;>by_cases h6:s.body[0].kind=5<;>simp[aL,ab,aI,aU,dL,bP,bR,h,show(s.aw.length:Int)=1 by omega,show(1:Int)<=s.body.length by omega,show(s.body.length:Int)<=2 by omega,Bg h0,h5,h6]<;>
    exact uG.mk [] s.aw [] [] s.body h rfl rfl rfl (by rw[Sm.me,<-zL,eR,qhg h0];simp[h]<;>grind [Au])
  case inr.inr.inr.inr.inr.inr.inl=>
   by_cases h1:(1:Int)<=s.decls.length<;>simp[aL,ab,aI,aU,dL,bP,bR,h,h1]<;>exact uG.mk [] [] [] s.decls s.body h rfl rfl rfl (by rw[Sm.me,<-zL,eR];simp[h]<;>grind [Au,iu])
  all_goals simp[aL,ab,aI,aU,dL,bP,bR,h]
  case inl=>exact uG.mk [] [] [] [] [] h rfl rfl rfl (by rw[Sm.me,<-zL,eR];simp[h]<;>grind [Au,iu])
  case inr.inr.inl=>exact uG.mk [] s.aw [] [] [] h rfl rfl rfl (by rw[Sm.me,<-zL,eR];simp[h]<;>grind [Au,iu])
  case inr.inr.inr.inr.inr.inr.inr.inl=>exact uG.mk [] [] [] [] s.body h rfl rfl rfl (by rw[Sm.me,<-zL,eR];simp[h]<;>grind [Au,iu])
  case inr.inr.inr.inr.inr.inl=>
   refine aZ (vE _ _) ?_;cases h1:aH s.text<;>simp[aL,ab,aI,aU,dL,bP,bR]<;>exact uG.mk [] s.aw [] [] [] h rfl rfl rfl (by rw[Sm.me,<-zL,eR];simp[h]<;>grind [Au,iu])
  all_goals
   refine aZ (qxG _ hO.targets.1 _) ?_
   cases h1:iu s.targets Ex.mE&&decide (0<s.targets.length)
  case inr.inl.false|inr.inl.true=>simp[aL,ab,aI,aU,dL,bP,bR];exact uG.mk s.targets s.aw [] [] [] h rfl rfl rfl (by rw[Sm.me,<-zL,eR];simp[h]<;>grind [Au,iu])
  all_goals
   by_cases h2:(s.targets.length:Int)=1<;>by_cases h3:(1:Int)<=s.elems.length<;>simp[aL,ab,aI,aU,dL,bP,bR,h2,h3]<;>exact uG.mk s.targets [] s.elems [] s.body h rfl rfl rfl (by rw[Sm.me,<-zL,eR];simp[h]<;>grind [Au,iu])
 rintro E U ⟨ok,t,b3,b4,b5,b6,b7,g,e,f,d,b,hr,g1,g3,g6,rfl⟩
 have hy:V.cR [V.agg [.sl false (s.labels.map .str),.int .i64 s.kind,.str t,.sl b3 (g.map Ex.v),.sl b4 (e.map Ex.v),.sl b5 (f.map El.v),.sl b6 (d.map De.v),.sl b7 (b.map Sm.v)]]=[(Sm.mk s.labels s.kind t g e f d b).v]:=by
  simp only[V.cR,V.weak,oq,uf,vJ,nf,oW];rw[Sm.eW];rfl
 have qe0:=λS=>aA.yR (args:=[V.agg [.sl false (s.labels.map .str),.int .i64 s.kind,.str t,.sl b3 (g.map Ex.v),.sl b4 (e.map Ex.v),.sl b5 (f.map El.v),.sl b6 (d.map De.v),.sl b7 (b.map Sm.v)]]) (by rw[hy];exact Ot (Sm.mk s.labels s.kind t g e f d b) S)
 generalize qh:Sm.mk s.labels s.kind t g e f d b=y at hy qe0
 cases ok with
 |false=>
  simp[g1,g3,g6,ab,dP,eF,eZ];exact aQ (r:=by rw[hr];rfl)
 |true=>
  simp[g1,g3,g6,ab];refine nG (qky s.labels hO.labels.1 _) ?_
  cases hn:iu s.labels aH with
  |false=>
   unfold iu at hn;simp[g1,g3,g6,ab,dP,eF,eZ];exact aQ (r:=by rw[hr,hn];rfl)
  |true=>
   unfold iu at hn;simp[g1,ab];refine nG (Ot s _) ?_;simp[g3,ab,dL];refine nG (qe0 _) ?_;simp;refine nG (S4 1 1 s y De.z De.z El.z El.z Ex.z Ex.z hs De.Hz _) ?_;simp[dP,eF,eZ,g3,ab,dL];refine fB rfl ?_ rfl;rw[hr,hn];simp only[aY,V.bool.injEq,rO];rw[eR,dT,qlL,<-qh];rw[cT,cT,cT,cT,cT,dT,dT,dT,dT,dT,dT];unfold kg qV;constructor
   .rintro⟨⟨h1,h2,h3,h4,h5⟩,_,h6,_⟩;exact⟨⟨⟨⟨⟨h1,h2⟩,h3⟩,h4⟩,h5⟩,h6⟩
   .rintro⟨⟨⟨⟨⟨h1,h2⟩,h3⟩,h4⟩,h5⟩,h6⟩;exact⟨⟨h1,h2,h3,h4,h5⟩,rfl,h6,rfl⟩
def qxt(e:El):∀S,Fn prog 191 [e.v] S (.bool e.bp):=by
 refine Pu.ib EQ ?_;unfold El.bp;by_cases h1:e.kind=1
 .by_cases hl:(e.aw.length:Int)=1
  .simp[EQ,aL,ab,h1,hl];exact aQ (r:=by simp[aY];omega)
  .simp[EQ,aL,ab,h1,hl];exact aQ (r:=by simp[aY];omega)
 by_cases h2:e.kind=2
 .by_cases hl:(e.aw.length:Int)=3
  .simp[EQ,aL,ab,h2,hl];exact aQ (r:=by simp[aY];omega)
  .simp[EQ,aL,ab,h2,hl];exact aQ (r:=by simp[aY];omega)
 by_cases h3:e.kind=3
 .simp[EQ,aL,ab,h3];exact aQ (r:=by simp[aY];omega)
 simp[EQ,aL,ab,h1,h2,h3];exact aQ (r:=rfl)
def De.me(nm:Bz→Bool)(d:De):d.bp nm=(d.names.all nm &&
 (if d.kind=1 then decide (1≤d.names.length) && decide (d.aw.length=0) && decide (d.aj.length=0) && decide (d.body.length=0) && decide (1≤d.type∧d.type≤3)
  else if d.kind=2 then decide (1<=d.names.length)&&decide (2<=d.aw.length/\d.aw.length<=8)&&decide (d.aw.length%2=0)&&decide (d.aj.length=0)&&decide (d.body.length=0)&&decide (1<=d.type/\d.type<=3)
  else if d.kind=3 then decide (d.names.length=1)&&decide (1<=d.aw.length)&&decide (d.aj.length=0)&&decide (d.body.length=0)&&!d.own&&decide (d.type=0)
  else if d.kind=4 then decide (d.names.length=1)&&decide (d.aw.length=0)&&decide (d.body.length=1)&&decide (d.aj.length<=8)&&!d.own&&decide (0<=d.type/\d.type<=3)&&fi nm d.aj []
  else false)):=by cases d;rfl
open Classical in
def vX(c:De)(E:ae)(U:St):Prop:=∃(ok o:Bool) (t:Int) (b4 b5 b6:Bool) (e:List Ex) (f:List Fo) (b:List Sm),c.bp aH=(ok&&(c.names.all aH&&(decide (c.aj=f)&&decide (c.aw.length=e.length)&&decide (c.body.length=b.length)&&decide (c.own=o)&&decide (c.type=t))))/\E.get 1=some (.ptr 0 0 0 1)/\E.get 3=some (.ptr 1 0 0 1)/\E.get 5=some (.bool ok)/\
 U=[.arr [c.v] 7 1,.arr [.agg [.int .i64 c.kind,.bool o,.int .i64 t,.sl false (c.names.map .str),.sl b4 (e.map Ex.v),.sl b5 (f.map Fo.v),.sl b6 (b.map Sm.v)]] 7 1]
open Classical in
def vX.mk{c:De}{E:ae}{ok o:Bool}{t k:Int}{b4 b5 b6:Bool}(e:List Ex)(f:List Fo)(b:List Sm)(hk:c.kind=k)(h1:E.get 1=some (.ptr 0 0 0 1))(h3:E.get 3=some (.ptr 1 0 0 1))(h5:E.get 5=some (.bool ok))(h:c.bp aH=(ok&&(c.names.all aH&&(decide (c.aj=f)&&decide (c.aw.length=e.length)&&decide (c.body.length=b.length)&&decide (c.own=o)&&decide (c.type=t))))):
 vX c E [.arr [c.v] 7 1,.arr [.agg [.int .i64 k,.bool o,.int .i64 t,.sl false (c.names.map .str),.sl b4 (e.map Ex.v),.sl b5 (f.map Fo.v),.sl b6 (b.map Sm.v)]] 7 1]:=⟨_,_,_,_,_,_,e,f,b,h,h1,h3,h5,by rw[hk]⟩
open Classical in
def qxs(c:De)(hs:c.ok):∀S,Fn prog 190 [c.v] S (.bool (c.bp aH)):=by
 refine Pu.ib qbl ?_;have hO:=(De.fh c).1 hs;simp only[qbl,fW];refine zb ?_ λ_ _ h=>HS (vX c) h ?_
 .have hc:c.kind=1\/c.kind=2\/c.kind=3\/c.kind=4\/¬(1<=c.kind/\c.kind<=4):=oM;rcases hc with h|h|h|h| h
  case inr.inr.inr.inr=>
   simp[aL,ab,aI,aU,dL,bP,bR,show c.kind≠1 by omega,show c.kind≠2 by omega,show c.kind≠3 by omega,show c.kind≠4 by omega];exact vX.mk [] [] [] rfl rfl rfl rfl (by rw[De.me];grind)
  case inr.inr.inl=>
   by_cases h1:(c.names.length:Int)=1<;>simp[aL,ab,aI,aU,dL,bP,bR,h,h1]<;>exact vX.mk c.aw [] [] h rfl rfl rfl (by rw[De.me,eR];simp[h]<;>grind [fi])
  all_goals
   simp[aL,ab,aI,aU,dL,bP,bR,h]
   refine aZ (S5 _ _ _ _) ?_
  case inl=>
   by_cases h1:1<=c.type/\c.type<=3
   case neg=>rw[zR h1];simp[aL,ab,aI,aU,dL,bP,bR];exact vX.mk [] [] [] h rfl rfl rfl (by rw[De.me,eR];simp[h]<;>grind [fi])
   rw[Bw h1];simp[aL,ab,aI,aU,dL,bP,bR];exact vX.mk [] [] [] h rfl rfl rfl (by rw[De.me,eR];simp[h]<;>grind [fi])
  case inr.inl=>
   have hm:=Yq c.aw.length;by_cases h1:1<=c.type/\c.type<=3
   case neg=>rw[zR h1];simp[aL,ab,aI,aU,dL,bP,bR];exact vX.mk c.aw [] [] h rfl rfl rfl (by rw[De.me,eR];simp[h]<;>grind [fi])
   rw[Bw h1];by_cases h2:(1:Int)<=c.names.length<;>by_cases h3:(2:Int)<=c.aw.length<;>by_cases h4:(c.aw.length:Int)%2=0<;>simp[aL,ab,aI,aU,dL,bP,bR,h2,h3,hm,h4]<;>exact vX.mk c.aw [] [] h rfl rfl rfl (by rw[De.me,eR];simp[h]<;>grind [fi])
  by_cases h1:0<=c.type/\c.type<=3
  case neg=>rw[zR h1];simp[aL,ab,aI,aU,dL,bP,bR];exact vX.mk [] c.aj c.body h rfl rfl rfl (by rw[De.me,eR];simp[h]<;>grind [fi])
  rw[Bw h1];by_cases h2:(c.names.length:Int)=1
  case neg=>simp[aL,ab,aI,aU,dL,bP,bR,h2];exact vX.mk [] c.aj c.body h rfl rfl rfl (by rw[De.me,eR];simp[h]<;>grind [fi])
  simp[aL,ab,aI,aU,dL,bP,bR,h2];refine aZ (qxH c.aj hO.aj.1 _) ?_;cases h3:fi aH c.aj []&&decide (c.aj.length<=8)<;>simp[aL,ab,aI,aU,dL,bP,bR]<;>exact vX.mk [] c.aj c.body h rfl rfl rfl (by rw[De.me,eR];simp[h]<;>grind [fi])
 rintro E U ⟨ok,o,t,b4,b5,b6,e,f,b,hr,g1,g3,g5,rfl⟩
 have hy:V.cR [V.agg [.int .i64 c.kind,.bool o,.int .i64 t,.sl false (c.names.map .str),.sl b4 (e.map Ex.v),.sl b5 (f.map Fo.v),.sl b6 (b.map Sm.v)]]=[(De.mk c.kind o t c.names e f b).v]:=by
  simp only[V.cR,V.weak,oq,ug,nf,oW];rw[De.eW];rfl
 have qe1:=λS=>aA.yR (args:=[V.agg [.int .i64 c.kind,.bool o,.int .i64 t,.sl false (c.names.map .str),.sl b4 (e.map Ex.v),.sl b5 (f.map Fo.v),.sl b6 (b.map Sm.v)]]) (by rw[hy];exact Zr (De.mk c.kind o t c.names e f b) S)
 generalize qh:De.mk c.kind o t c.names e f b=y at hy qe1
 cases ok with
 |false=>
  simp[g1,g3,g5,ab,dP,eF,eZ];exact aQ (r:=by rw[hr];rfl)
 |true=>
  simp[g1,g3,g5,ab];refine nG (qky c.names hO.names.1 _) ?_
  cases hn:iu c.names aH with
  |false=>
   unfold iu at hn;simp[g1,g3,g5,ab,dP,eF,eZ];exact aQ (r:=by rw[hr,hn];rfl)
  |true=>
   unfold iu at hn;simp[g1,ab];refine nG (Zr c _) ?_;simp[g3,ab,dL];refine nG (qe1 _) ?_;simp;refine nG (S4 2 2 Sm.z Sm.z c y El.z El.z Ex.z Ex.z Ex.Hz hs _) ?_;simp[dP,eF,eZ,g3,ab,dL];refine fB rfl ?_ rfl;rw[hr,hn];simp only[aY,V.bool.injEq,rO];rw[eR,dT,qlK,<-qh];rw[cT,cT,cT,cT,dT,dT,dT,dT,dT];unfold rP;constructor
   .rintro⟨h1,⟨h2,h3⟩,_,h4,h5,_⟩;exact⟨⟨⟨⟨h1,h2⟩,h3⟩,h4⟩,h5⟩
   .rintro⟨⟨⟨⟨h1,h2⟩,h3⟩,h4⟩,h5⟩;exact⟨h1,⟨h2,h3⟩,rfl,h4,h5,rfl⟩
def qxd:∀(k:Nat) (p:Pa),p.wt<=k->p.ok->p.size<=2000->∀S,Fn prog 160 [p.v] S (.bool (p.valid aH)):=by
 intro k
 induction k with
 |zero=>intro p h;exfalso;cases p with
  |st s=>cases s;simp[Pa.wt]at h
  |de s=>cases s;simp[Pa.wt]at h
  |el s=>cases s;simp[Pa.wt]at h
  |ex s=>cases s;simp[Pa.wt]at h
 |succ k ih=>
  intro p hw hp bF;refine Pu.ib EP ?_;have hs:=p.size_eq;have hlen:=oi p.kids;have dW:=p.Ej;have zw:=Pa.valid_eq aH p;generalize hr:p.valid aH=r at zw |-;have rest:∀(E:ae) (S:St),E.get 3=some (.bool (p.bp aH))->E.get 1=some (ag 0)->S[0]?=aJ [p.v] 25->
    WP prog (match EP.c.body with|.seq _ (.seq _ (.seq _ b))=>b|x=>x) (eN [.t 2] 0 λv U=>v=.bool r/\U=[]) E S:=by
   intro E S g3 g1 h0;simp[EP,g1,ab,h0];refine aZ (Ox p hp oM _) ?_;simp;refine eA (λe U=>e.get 3=some (.bool r)) ?_ ?_;rotate_left
   .rintro e U g;simp[g];exact fB (vs:=[.bool r]) sM rfl rfl
   refine cE (λj e S'=>∃i:Nat,j=p.kids.length - i∧i≤p.kids.length∧
    e=[(5,af i),(4,ah (p.kids.map Pa.v)),(3,.bool (p.bp aH&&iu (p.kids.take i) (Pa.valid aH)))]) p.kids.length _ ?_ ⟨0,sM,oM,rfl⟩ ?_
   .have hz:iu [] (Pa.valid aH)=true:=rfl
    repeat' first|exact ae.gZ _|refine ae.fp (by simp[g3,hz]) ?_
   rintro j e S' ⟨i,rfl,hi,rfl⟩
   have DG:p.bp aH=true->iu (p.kids.take i) (Pa.valid aH)=false->r=false:=λ_ h=>by
    rw[zw];unfold iu at h
    cases ha:p.kids.all (Pa.valid aH) with
    |false=>simp
    |true=>
     rw[fR]at ha;have:(p.kids.take i).all (Pa.valid aH)=true:=fR.2 λq hq=>ha q (E6 hq)
     rw[this]at h;cases h
   by_cases h:i<p.kids.length
   .cases ho:p.bp aH with
    |false=>
     simp[h];rw[zw,ho];rfl
    |true=>
     cases hq:iu (p.kids.take i) (Pa.valid aH) with
     |false=>
      simp[h];rw[DG ho hq]
     |true=>
      have hk:=Pa.zG (dz h);have q2:=nc (l:=p.kids) (i:=i) (q:=p.kids[i]) (by simp[h]);simp[h,Rm];refine aZ (ih p.kids[i] oM (Pa.GG hp (dz h)) oM _) ?_;simp[cG i];refine⟨_,?_,_,?_,i+1,rfl,oM,rfl⟩
      .omega
      .have ha:iu (p.kids.take (i+1)) (Pa.valid aH)=p.kids[i].valid aH:=by
        unfold iu at *;rw[dN,bX h,KD,hq];simp
       exact ae.fp (k:=5) (v:=af (i+1:Nat)) sM (ae.fp (k:=4) (v:=ah (p.kids.map Pa.v)) sM (ae.fp (k:=3) (v:=.bool (true&&iu (p.kids.take (i+1)) (Pa.valid aH))) (by simp[ha]) (ae.gZ _)))
   .have:i=p.kids.length:=oM;subst this;simp;rw[zw];unfold iu;rfl
  cases p with
  |st s=>
   have Gk:(Pa.st s).bp aH=s.bp aH:=rfl;simp only[EP,fW]at rest |-;refine cS (λE U=>E.get 1=some (ag 0)/\U=[.arr [(Pa.st s).v] 25 1]) (by simp[aL,jV]) ?_;rintro E U ⟨g1,rfl⟩;refine cS (λE U=>E.get 1=some (ag 0)/\E.get 3=some (.bool false)/\U=[.arr [(Pa.st s).v] 25 1]) (by simp[g1]) ?_;rintro E U ⟨g1,g3,rfl⟩;refine cS (λE U=>E.get 1=some (ag 0)/\E.get 3=some (.bool ((Pa.st s).bp aH))/\U=[.arr [(Pa.st s).v] 25 1]) ?_ ?_
   .simp only[Pa.v,Pa.kind,Pa.toS,Pa.lH,Pa.nB,Pa.nE];simp[g1,ab];refine aZ (qxr s hp _) ?_;simp[g1,Gk]
   rintro E U ⟨g1,g3,rfl⟩;exact rest E _ g3 g1 rfl
  |de d=>
   have Gk:(Pa.de d).bp aH=d.bp aH:=rfl;simp only[EP,fW]at rest |-;refine cS (λE U=>E.get 1=some (ag 0)/\U=[.arr [(Pa.de d).v] 25 1]) (by simp[aL,jV]) ?_;rintro E U ⟨g1,rfl⟩;refine cS (λE U=>E.get 1=some (ag 0)/\E.get 3=some (.bool false)/\U=[.arr [(Pa.de d).v] 25 1]) (by simp[g1]) ?_;rintro E U ⟨g1,g3,rfl⟩;refine cS (λE U=>E.get 1=some (ag 0)/\E.get 3=some (.bool ((Pa.de d).bp aH))/\U=[.arr [(Pa.de d).v] 25 1]) ?_ ?_
   .simp only[Pa.v,Pa.kind,Pa.toS,Pa.lH,Pa.nB,Pa.nE];simp[g1,ab];refine aZ (qxs d hp _) ?_;simp[g1,Gk]
   rintro E U ⟨g1,g3,rfl⟩;exact rest E _ g3 g1 rfl
  |el e=>
   have Gk:(Pa.el e).bp aH=e.bp:=rfl;simp only[EP,fW]at rest |-;refine cS (λE U=>E.get 1=some (ag 0)/\U=[.arr [(Pa.el e).v] 25 1]) (by simp[aL,jV]) ?_;rintro E U ⟨g1,rfl⟩;refine cS (λE U=>E.get 1=some (ag 0)/\E.get 3=some (.bool false)/\U=[.arr [(Pa.el e).v] 25 1]) (by simp[g1]) ?_;rintro E U ⟨g1,g3,rfl⟩;refine cS (λE U=>E.get 1=some (ag 0)/\E.get 3=some (.bool ((Pa.el e).bp aH))/\U=[.arr [(Pa.el e).v] 25 1]) ?_ ?_
   .simp only[Pa.v,Pa.kind,Pa.toS,Pa.lH,Pa.nB,Pa.nE];simp[g1,ab];refine aZ (qxt e _) ?_;simp[g1,Gk]
   rintro E U ⟨g1,g3,rfl⟩;exact rest E _ g3 g1 rfl
  |ex x=>
   have Gk:(Pa.ex x).bp aH=x.bp aH:=rfl;simp only[EP,fW]at rest |-;refine cS (λE U=>E.get 1=some (ag 0)/\U=[.arr [(Pa.ex x).v] 25 1]) (by simp[aL,jV]) ?_;rintro E U ⟨g1,rfl⟩;refine cS (λE U=>E.get 1=some (ag 0)/\E.get 3=some (.bool false)/\U=[.arr [(Pa.ex x).v] 25 1]) (by simp[g1]) ?_;rintro E U ⟨g1,g3,rfl⟩;refine cS (λE U=>E.get 1=some (ag 0)/\E.get 3=some (.bool ((Pa.ex x).bp aH))/\U=[.arr [(Pa.ex x).v] 25 1]) ?_ ?_
   .simp only[Pa.v,Pa.kind,Pa.toS,Pa.lH,Pa.nB,Pa.nE];simp[g1,ab];refine aZ (qxu x hp _) ?_;simp[g1,Gk]
   rintro E U ⟨g1,g3,rfl⟩;exact rest E _ g3 g1 rfl
def Zp(p:Pa)(hp:p.ok):∀S,Fn prog 112 [p.v] S (af (p.err aH)):=by
 refine Pu.ib qaB ?_;simp[qaB,aL,ab];refine aZ (Zv p hp _) ?_;unfold Pa.err;by_cases hf:p.fits
 .simp[hf,ab];refine aZ (qxd _ p cz hp hf.1 _) ?_
  cases hv:p.valid aH with
  |true=>
   simp;exact aQ (r:=rfl)
  |false=>
   simp;exact aQ (r:=rfl)
 .simp[hf,ab];exact aQ (r:=rfl)
def qyb(s:Sm)(hs:s.ok):∀S,Fn prog 63 [s.v] S (af ((Pa.st s).err aH)):=by
 refine Pu.ib C63 ?_;simp[C63,aL,ab];refine aZ (Ot s _) ?_;simp;refine aZ (Zp (.st s) hs _) ?_;simp;exact aQ (r:=rfl)
def qyl(s:Ex)(hs:s.ok):∀S,Fn prog 91 [s.v] S (af ((Pa.ex s).err aH)):=by
 refine Pu.ib C91 ?_;simp[C91,aL,ab];refine aZ (Zs s _) ?_;simp;refine aZ (Zp (.ex s) hs _) ?_;simp;exact aQ (r:=rfl)
def ZA(s:Sm)(hs:s.ok):∀S,Fn prog 20 [s.v] S (af ((Pa.st s).err aH)):=by
 refine Pu.ib C20 ?_;simp[C20,aL,ab];refine aZ (qyb s hs _) ?_;simp;exact aQ (r:=rfl)
def qx4(s:Ex)(hs:s.ok):∀S,Fn prog 40 [s.v] S (af ((Pa.ex s).err aH)):=by
 refine Pu.ib C40 ?_;simp[C40,aL,ab];refine aZ (qyl s hs _) ?_;simp;exact aQ (r:=rfl)
def Pa.Lp(a b:Pa):Prop:=yV a.kind b.kind a.toS b.toS a.lH b.lH a.nB b.nB a.nE b.nE
def Pa.qob(a:Pa):a.Lp a:=⟨⟨rfl,rfl⟩,⟨⟨rfl,rfl,rfl,rfl,rfl⟩,rfl,rfl,rfl,rfl⟩,⟨rfl,rfl,rfl⟩,⟨rfl,rfl,rfl,rfl⟩,rfl,rfl,rfl,rfl,⟨rfl,rfl⟩,rfl⟩
def Pa.qoa{a b:Pa}(h:a.Lp b):a.kids.length=b.kids.length:=by
 obtain⟨⟨hk,_⟩,⟨⟨h1,h2,h3,h4,h5⟩,h6,h7,h8,h9⟩,_⟩:=h;rw[Jn,Jn];cases a<;>cases b<;>simp only[Pa.kind,Pa.toS,Pa.lH,Pa.nB,Pa.nE]at *<;>omega
def zI{α β:Type}{f:α->β}(hf:∀x y,f x=f y->x=y):∀{l m:List α},l.map f=m.map f->l=m
 |[],[],_=>rfl
 |[],_::_,h=>by simp at h
 |_::_,[],h=>by simp at h
 |x::l,y::m,h=>by
  simp only[cQ,List.cons.injEq]at h;rw[hf x y h.1,zI hf h.2]
def Pa.eq_of{a b:Pa}(h:a.Lp b)(hk:a.kids=b.kids):a=b:=by
 obtain⟨⟨yi,hf⟩,⟨⟨h1,h2,h3,h4,h5⟩,h6,h7,h8,h9⟩,⟨s1,s2,s3⟩,⟨d1,d2,d3,d4⟩,e1,x1,x2,x3,⟨x4,x5⟩,x6⟩:=h;have iX:∀x y,Pa.ex x=Pa.ex y->x=y:=λx y h=>by cases h;rfl
 have iS:∀x y,Pa.st x=Pa.st y->x=y:=λx y h=>by cases h;rfl
 have iE:∀x y,Pa.el x=Pa.el y->x=y:=λx y h=>by cases h;rfl
 have iD:∀x y,Pa.de x=Pa.de y->x=y:=λx y h=>by cases h;rfl
 cases a with
 |st s=>
  cases b with
  |st t=>
   simp only[Pa.kids,Pa.toS]at *;obtain⟨k1,hk⟩:=HJ hk (by simp[h1]);obtain⟨k2,hk⟩:=HJ hk (by simp[h2]);obtain⟨k3,hk⟩:=HJ hk (by simp[h3]);obtain⟨k4,k5⟩:=HJ hk (by simp[h4]);have k1:=zI iX k1;have k2:=zI iX k2;have k3:=zI iE k3;have k4:=zI iD k4;have k5:=zI iS k5;cases s;cases t;simp only[Sm.labels,Sm.kind,Sm.text,Sm.targets,Sm.aw,Sm.elems,Sm.decls,Sm.body]at *;subst k1 k2 k3 k4 k5 s1 s2 s3;rfl
  |_=>simp[Pa.kind]at yi
 |de s=>
  cases b with
  |de t=>
   simp only[Pa.kids,Pa.lH]at *;obtain⟨k1,k2⟩:=HJ hk (by simp[h6]);have k1:=zI iX k1;have k2:=zI iS k2;cases s;cases t;simp only[De.names,De.kind,De.own,De.type,De.aw,De.aj,De.body]at *;subst k1 k2 d1 d2 d3 d4 hf;rfl
  |_=>simp[Pa.kind]at yi
 |el s=>
  cases b with
  |el t=>
   simp only[Pa.kids,Pa.nB]at *;have k1:=zI iX hk;cases s;cases t;simp only at *;subst k1 e1;rfl
  |_=>simp[Pa.kind]at yi
 |ex s=>
  cases b with
  |ex t=>
   simp only[Pa.kids,Pa.nE]at *;have k1:=zI iX hk;cases s;cases t;simp only[Ex.kind,Ex.op,Ex.n,Ex.dQ,Ex.exp,Ex.text,Ex.args]at *;subst k1 x1 x2 x3 x4 x5 x6;rfl
  |_=>simp[Pa.kind]at yi
def Pa.qyQ{p:Pa}(h:p.ok):p.toS.ok:=by cases p<;>first|exact h|exact Ex.Hz
def Pa.qyP{p:Pa}(h:p.ok):p.lH.ok:=by cases p<;>first|exact h|exact De.Hz
def qsv{l m:List Pa}(hl:l.length=m.length)(h:∀j,j<l.length->l[j]?=m[j]?):l=m:=by
 apply vV;intro i;by_cases hi:i<l.length
 .exact h i hi
 .rw[rQ oM,rQ oM]
def qsu(l m:List Pa)(i:Nat):Prop:=∀j,j<i->l[j]?=m[j]?
open Classical in
def qxe:∀(k:Nat) (a b:Pa),a.wt<=k->a.ok->b.ok->a.size<=2000->b.size<=2000->∀S,Fn prog 164 [a.v,b.v] S (.bool (decide (a=b))):=by
 intro k
 induction k with
 |zero=>intro p q h;exfalso;cases p with
  |st s=>cases s;simp[Pa.wt]at h
  |de s=>cases s;simp[Pa.wt]at h
  |el s=>cases s;simp[Pa.wt]at h
  |ex s=>cases s;simp[Pa.wt]at h
 |succ k ih=>
  intro a b hw ha hb hsa hsb;refine Pu.ib qa4 ?_;have la:=a.size_eq;have lb:=b.size_eq;have la':=oi a.kids;have lb':=oi b.kids;have oa:=a.Ej;have ob:=b.Ej;generalize hr:decide (a=b)=r;simp[qa4,aL,ab];refine aZ (S4 a.kind b.kind a.toS b.toS a.lH b.lH a.nB b.nB a.nE b.nE (Pa.qyQ ha) (Pa.qyP ha) _) ?_;change J3 prog _ _ _ _ (.bool (decide (a.Lp b))) _;by_cases he:a.Lp b
  case neg=>
   rw[e9 he];simp;refine fB rfl ?_ rfl;rw[<-hr,e9 (λh=>he (by rw[h];exact Pa.qob b))];rfl
  rw[pf he];have mz:=Pa.qoa he;simp[ab];refine aZ (Ox a ha oM _) ?_;simp[ab];refine aZ (Ox b hb oM _) ?_;simp;refine cE (λj e S'=>∃i:Nat,j=a.kids.length - i∧i≤a.kids.length∧qsu a.kids b.kids i∧
   e=[(7,af i),(5,ah (a.kids.map Pa.v)),(6,ah (b.kids.map Pa.v))]) a.kids.length _ ?_ ⟨0,sM,oM,λj hj=>by omega,rfl⟩ ?_
  .exact ba
  rintro j e S' ⟨i,rfl,hi,hq,rfl⟩;by_cases h:i<a.kids.length
  .have h':i<b.kids.length:=oM;have hk:=Pa.zG (dz h);have q1:=nc (l:=a.kids) (i:=i) (q:=a.kids[i]) (by simp[h]);have q2:=nc (l:=b.kids) (i:=i) (q:=b.kids[i]) (by simp[h']);simp[h,h',Rm];refine nG (ih a.kids[i] b.kids[i] oM (Pa.GG ha (dz h)) (Pa.GG hb (dz h')) oM oM _) ?_;by_cases hx:a.kids[i]=b.kids[i]
   .rw[pf hx];simp[dP,eF,eZ,cG i];refine⟨_,?_,_,?_,i+1,rfl,oM,?_,rfl⟩
    .omega
    .exact ba
    .intro j hj;by_cases rl:j=i
     .subst rl;simp[h,h',hx]
     .exact hq j oM
   .rw[e9 hx];simp[dP,eF,eZ];refine fB rfl ?_ rfl;rw[<-hr,e9 (λhh=>hx (by subst hh;rfl))];rfl
  .have:i=a.kids.length:=oM;subst this;simp;refine fB rfl ?_ rfl;rw[<-hr,pf (Pa.eq_of he (qsv mz hq))];rfl
open Classical in
def qwY(a b:Pa)(ha:a.ok)(hb:b.ok)(fa:a.fits)(fb:b.fits):∀S,Fn prog 118 [a.v,b.v] S (.bool (decide (a=b))):=by
 refine Pu.ib qaG ?_;simp[qaG,aL,ab];refine aZ (Zv a ha _) ?_;simp[fa,ab];refine aZ (Zv b hb _) ?_;simp[fb,ab];refine aZ (qxe _ a b cz ha hb fa.1 fb.1 _) ?_;simp;exact aQ (r:=rfl)
open Classical in
def qye(a b:Sm)(ha:a.ok)(hb:b.ok)(fa:(Pa.st a).fits)(fb:(Pa.st b).fits):∀S,Fn prog 68 [a.v,b.v] S (.bool (decide (a=b))):=by
 refine Pu.ib C68 ?_;simp[C68,aL,ab];refine nG (Ot a _) ?_;simp[ab];refine nG (Ot b _) ?_;simp;refine nG (qwY (.st a) (.st b) ha hb fa fb _) ?_;simp[dP,eF,eZ,ab];exact aQ (r:=by simp[aY])
open Classical in
def qxK(a b:Sm)(ha:a.ok)(hb:b.ok)(fa:(Pa.st a).fits)(fb:(Pa.st b).fits):∀S,Fn prog 23 [a.v,b.v] S (.bool (decide (a=b))):=by
 refine Pu.ib C23 ?_;simp[C23,aL,ab];refine aZ (qye a b ha hb fa fb _) ?_;simp;exact aQ (r:=rfl)
set_option maxHeartbeats 0
set_option maxRecDepth 100000
noncomputable def qbR:=aW func256
noncomputable def qbT:=aW func272
noncomputable def c273:F':=⟨8,[.t 2],.k [.a 2 (.sl true [])] (.seq (.k [.m 3 0,.o 4 (.ex (.eqn false (.t 3)))] (.d 4 (.k [.a 2 (.sl true [])] .ret) .skip)) (.k [.o 5 (.Fq 4 []),.m 6 0,.o 7 (.fq 4 40 (.t 5) (.t 6)),.m 2 7] .ret))⟩
def ok273:GZ f273 c273:=JF
noncomputable def qbU:=aW func277
end Go.Proofs.YtbifpocccfkhhaaGreatDoor

namespace Go.Proofs.YtbifpocccfkhhaaGreatDoor
open Go
structure Pw where
 H:Type
 f:Nat->Bz->Bz
 nm:Option (Ex->ai->Bool->Ex)
 cl:Option (Bz->ai->Bz)
 nQ:H->Nat->Bz->H
 xh:H->Ex->ai->Bool->H
 qZ:H->Bz->ai->H
def jo(p:Pw)(sc:ai)(x:Bz):Bz:=match sc.at x with
 |some k=>p.f k x
 |none=>x
def enters(p:Pw)(h:p.H)(s:cy):p.H:=s.foldl (λh e=>p.nQ h e.2 e.1) h
def Pw.yD(p:Pw)(sc:ai)(tg:Bool)(x:Ex):Ex:=if Ex.named x.kind then match p.nm with
  |none=>.mk x.kind x.op x.n x.dQ x.exp (jo p sc x.text) x.args
  |some g=>g x sc tg
 else x
def Pw.sO(p:Pw)(sc:ai)(tg:Bool)(h:p.H)(x:Ex):p.H:=if Ex.named x.kind then match p.nm with
  |none=>h
  |some _=>p.xh h x sc tg
 else h
mutual
def Ex.wr(p:Pw)(sc:ai)(tg:Bool):Ex->Ex
 |.mk k o n m e t a=>p.yD sc tg (.mk k o n m e t (Ex.bh p sc false a))
def Ex.bh(p:Pw)(sc:ai)(tg:Bool):List Ex->List Ex
 |[]=>[]
 |x::l=>Ex.wr p sc tg x::Ex.bh p sc tg l
end
def Ex.Ce(p:Pw)(sc:ai)(tg:Bool):∀l,Ex.bh p sc tg l=l.map (Ex.wr p sc tg)
 |[]=>rfl
 |x::l=>by rw[Ex.bh,Ex.Ce p sc tg l];rfl
mutual
def Ex.hs(p:Pw)(sc:ai)(tg:Bool)(h:p.H):Ex->p.H
 |.mk k o n m e t a=>p.sO sc tg (Ex.aN p sc false h a) (.mk k o n m e t (Ex.bh p sc false a))
def Ex.aN(p:Pw)(sc:ai)(tg:Bool)(h:p.H):List Ex->p.H
 |[]=>h
 |x::l=>Ex.aN p sc tg (Ex.hs p sc tg h x) l
end
def Ex.zt(p:Pw)(sc:ai)(tg:Bool):∀(l m:List Ex) (h:p.H),Ex.aN p sc tg h (l++m)=Ex.aN p sc tg (Ex.aN p sc tg h l) m
 |[],m,h=>rfl
 |x::l,m,h=>by simp only[dR,Ex.aN];exact Ex.zt p sc tg l m _
def El.wr(p:Pw)(sc:ai)(e:El):El:=⟨e.kind,Ex.bh p sc false e.aw⟩
def El.aN(p:Pw)(sc:ai)(h:p.H)(l:List El):p.H:=l.foldl (λh e=>Ex.aN p sc false h e.aw) h
def Fo.wr(p:Pw)(sc:ai)(x:Fo):Fo:=⟨jo p sc x.name,x.value,x.spec,x.type⟩
def Pw.wF(p:Pw)(sc:ai)(k:Int)(t:Bz):Bz:=if k=6 then match p.cl with
  |none=>jo p sc t
  |some c=>c t sc
 else t
def Pw.rU(p:Pw)(sc:ai)(k:Int)(h:p.H)(t:Bz):p.H:=if k=6 then match p.cl with
  |none=>h
  |some _=>p.qZ h t sc
 else h
mutual
def Sm.wr(p:Pw)(sc:ai)(n:Nat):Sm->Sm
 |.mk l k t g e h d b=>
  if k=7 then
   .mk (l.map (jo p sc)) k t (Ex.bh p sc true g) e h (De.bh p (ar (cK d b) n::sc) sc (n+(ar (cK d b) n).length) d) (Sm.bh p (ar (cK d b) n::sc) (n+(ar (cK d b) n).length+De.aX d) b)
  else if k=8 then
   .mk (l.map (jo p sc)) k t (Ex.bh p sc true g) e h d (Sm.bh p (ar (cr b) n::sc) (n+(ar (cr b) n).length) b)
  else .mk (l.map (jo p sc)) k (p.wF sc k t) (Ex.bh p sc true g) (Ex.bh p sc false e) (h.map (El.wr p sc)) d (Sm.gV p sc n b)
def De.wr(p:Pw)(own sc:ai)(n:Nat):De->De
 |.mk k o t nm e fo b=>
  if k=4 then .mk k o t (nm.map (jo p own)) (Ex.bh p own false e) (fo.map (Fo.wr p (ar (fo.map Fo.name) n::own))) (Sm.gV p (ar (fo.map Fo.name) n::own) (n+(ar (fo.map Fo.name) n).length) b)
  else .mk k o t (nm.map (jo p own)) (Ex.bh p (if k=2 then sc else own) false e) fo b
def De.bh(p:Pw)(own sc:ai)(n:Nat):List De->List De
 |[]=>[]
 |x::l=>De.wr p own sc n x::De.bh p own sc (n+De.nb x) l
def Sm.bh(p:Pw)(sc:ai)(n:Nat):List Sm->List Sm
 |[]=>[]
 |x::l=>Sm.wr p sc n x::Sm.bh p sc (n+Sm.nb x) l
def Sm.gV(p:Pw)(sc:ai)(n:Nat):List Sm->List Sm
 |[]=>[]
 |x::l=>Sm.wr p (ar x.labels n::sc) (n+(ar x.labels n).length) x::Sm.gV p sc (n+(ar x.labels n).length+Sm.nb x) l
end
mutual
def Sm.hs(p:Pw)(sc:ai)(n:Nat)(h:p.H):Sm->p.H
 |.mk _ k t g e el d b=>
  if k=7 then
   Sm.aN p (ar (cK d b) n::sc) (n+(ar (cK d b) n).length+De.aX d) (De.aN p (ar (cK d b) n::sc) sc (n+(ar (cK d b) n).length) (enters p (Ex.aN p sc true h g) (ar (cK d b) n)) d) b
  else if k=8 then
   Sm.aN p (ar (cr b) n::sc) (n+(ar (cr b) n).length) (enters p (Ex.aN p sc true h g) (ar (cr b) n)) b
  else p.rU sc k (Sm.bw p sc n (El.aN p sc (Ex.aN p sc false (Ex.aN p sc true h g) e) el) b) t
def De.hs(p:Pw)(own sc:ai)(n:Nat)(h:p.H):De->p.H
 |.mk k _ _ _ e fo b=>
  if k=4 then Sm.bw p (ar (fo.map Fo.name) n::own) (n+(ar (fo.map Fo.name) n).length) (enters p (Ex.aN p own false h e) (ar (fo.map Fo.name) n)) b
  else Ex.aN p (if k=2 then sc else own) false h e
def De.aN(p:Pw)(own sc:ai)(n:Nat)(h:p.H):List De->p.H
 |[]=>h
 |x::l=>De.aN p own sc (n+De.nb x) (De.hs p own sc n h x) l
def Sm.aN(p:Pw)(sc:ai)(n:Nat)(h:p.H):List Sm->p.H
 |[]=>h
 |x::l=>Sm.aN p sc (n+Sm.nb x) (Sm.hs p sc n h x) l
def Sm.bw(p:Pw)(sc:ai)(n:Nat)(h:p.H):List Sm->p.H
 |[]=>h
 |x::l=>Sm.bw p sc (n+(ar x.labels n).length+Sm.nb x) (Sm.hs p (ar x.labels n::sc) (n+(ar x.labels n).length) (enters p h (ar x.labels n)) x) l
end
def Sm.vM(p:Pw)(s:Sm):Sm:=s.wr p [ar s.labels 0] (ar s.labels 0).length
def Sm.ou(p:Pw)(h:p.H)(s:Sm):p.H:=s.hs p [ar s.labels 0] (ar s.labels 0).length (enters p h (ar s.labels 0))
def Sm.yC:∀(l m:List Sm),Sm.aX (l++m)=Sm.aX l+Sm.aX m
 |[],m=>by simp[Sm.aX]
 |x::l,m=>by simp only[dR,Sm.aX,Sm.yC l m];omega
def De.yC:∀(l m:List De),De.aX (l++m)=De.aX l+De.aX m
 |[],m=>by simp[De.aX]
 |x::l,m=>by simp only[dR,De.aX,De.yC l m];omega
def Sm.NP:∀(l m:List Sm),Sm.bH (l++m)=Sm.bH l+Sm.bH m
 |[],m=>by simp[Sm.bH]
 |x::l,m=>by simp only[dR,Sm.bH,Sm.NP l m];omega
def Sm.OS(p:Pw)(sc:ai):∀(l m:List Sm) (n:Nat),Sm.bh p sc n (l++m)=Sm.bh p sc n l++Sm.bh p sc (n+Sm.aX l) m
 |[],m,n=>by simp[Sm.bh,Sm.aX]
 |x::l,m,n=>by simp only[dR,Sm.bh,Sm.aX,Sm.OS p sc l m,jU]
def De.OS(p:Pw)(own sc:ai):∀(l m:List De) (n:Nat),De.bh p own sc n (l++m)=De.bh p own sc n l++De.bh p own sc (n+De.aX l) m
 |[],m,n=>by simp[De.bh,De.aX]
 |x::l,m,n=>by simp only[dR,De.bh,De.aX,De.OS p own sc l m,jU]
def Sm.zt(p:Pw)(sc:ai):∀(l m:List Sm) (n:Nat) (h:p.H),Sm.aN p sc n h (l++m)=Sm.aN p sc (n+Sm.aX l) (Sm.aN p sc n h l) m
 |[],m,n,h=>by simp[Sm.aN,Sm.aX]
 |x::l,m,n,h=>by simp only[dR,Sm.aN,Sm.aX,Sm.zt p sc l m,jU]
def De.zt(p:Pw)(own sc:ai):∀(l m:List De) (n:Nat) (h:p.H),De.aN p own sc n h (l++m)=De.aN p own sc (n+De.aX l) (De.aN p own sc n h l) m
 |[],m,n,h=>by simp[De.aN,De.aX]
 |x::l,m,n,h=>by simp only[dR,De.aN,De.aX,De.zt p own sc l m,jU]
def HY(m:Nat):∀(l:List Bz) (s s':cy) (n n':Nat),s.map (·.1)=s'.map (·.1)->(binds l s n).map (·.1)=(binds l s' n').map (·.1)
 |[],s,s',n,n',h=>h
 |x::l,s,s',n,n',h=>by
  have at_eq:∀(s s':cy),s.map (·.1)=s'.map (·.1)->(s.at x).isSome=(s'.at x).isSome:=by
   intro s
   induction s with
   |nil=>intro s' h;cases s' with
    |nil=>rfl
    |cons e s'=>simp at h
   |cons e s ih=>
    intro s' h
    cases s' with
    |nil=>simp at h
    |cons e' s'=>
     simp only[cQ,List.cons.injEq]at h;have:=ih s' h.2;simp only[cy.at,EY,h.1]at this |-;by_cases hx:e'.1=x
     .simp[hx]
     .simp only[e9 hx];exact this
  simp only[binds];rw[at_eq s s' h];split
  .exact HY m l s s' n n' h
  .exact HY m l _ _ _ _ (by simp[h])
def mK(l:List Bz)(n n':Nat):(ar l n).length=(ar l n').length:=by
 have:=mn List.length (HY 0 l [] [] n n' rfl);rw[bQ,bQ]at this;exact this
structure Kg(F:Np)(S:St)(F':Np)(U:St):Prop where
 k:Kp F S U
 g:∀l,F' l->F l\/S.length<=l
def Kg.refl(F:Np)(S:St):Kg F S F S:=⟨Kp.refl _ _,λ_ h=>.inl h⟩
def Kg.trans{F G H:Np}{S T U:St}(h:Kg F S G T)(g:Kg G T H U):Kg F S H U:=
 ⟨⟨js h.k.len g.k.len,λl hl hn=>by
  rw[g.k.get l (pT hl h.k.len) λhh=>(h.g l hh).elim hn oM];exact h.k.get l hl hn⟩,λl hh=>(g.g l hh).elim (h.g l) λhl=>.inr (js h.k.len hl)⟩
def Kg.push{F G:Np}{S U:St}(h:Kg F S G U)(os:List Ob):Kg F S G (U++os):=⟨h.k.push os,h.g⟩
def Kg.set{F G:Np}{S U:St}(h:Kg F S G U){l:Nat}(o:Ob)(hl:F l\/S.length<=l):Kg F S G (U.set l o):=⟨h.k.set o hl,h.g⟩
def Kg.off{F G:Np}{S U:St}(h:Kg F S G U){l:Nat}(hl:l<S.length)(hf:¬F l):¬G l:=λhg=>(h.g l hg).elim hf oM
def Kg.with{F G:Np}{S U:St}(h:Kg F S G U)(L:Nat)(hl:L<S.length):Kg (λx=>F x\/x=L) S (λx=>G x\/x=L) U:=⟨h.k.mono λ_ _ h=>.inl h,λl hh=>hh.elim (λa=>(h.g l a).imp .inl id) λe=>.inl (.inr e)⟩
def RG(F0:Np)(U0:St)(L:Nat)(i0:LI)(J1 Dr:Np->St->Prop)(De:Nat->Np->St->Prop):V->St->Prop:=λv U=>∃F,Kg (λx=>F0 x\/x=L) U0 (λx=>F x\/x=L) U/\
 ((v=.bool true∧J1 F U∧U[L]?=some (.loop i0))∨(v=.bool false∧Dr F U∧U[L]?=some (.loop { i0 with st:=.done,dM:=some .ret }))∨
  ∃id,v=.bool false/\De id F U/\U[L]?=some (.loop { i0 with st:=.done,dM:=some (.exit id) }))
def SC{F0 F:Np}{U0:St}{L:Nat}{i0:LI}{J1 Dr:Np->St->Prop}{De:Nat->Np->St->Prop}{e:ae}{U:St}(hi:i0.st=.ready/\i0.dM=none)(h:U[L]?=some (.loop { i0 with st:=.busy }))(k:Kg (λx=>F0 x\/x=L) U0 (λx=>F x\/x=L) U)(g:J1 F (U.set L (.loop i0))):Ep L (RG F0 U0 L i0 J1 Dr De) .normal e U:=by
 have aB:=(br.1 h).1;have:({ i0 with st:=.ready,dM:=none }:LI)=i0:=by cases i0;simp only at hi;simp[hi.1,hi.2]
 refine⟨_,h,F,k.set _ (.inl (.inr rfl)),.inl ⟨rfl,?_,?_⟩⟩
 .simp only[this];exact g
 .simp only[this];rw[bO aB]
def qvz{F0 F:Np}{U0:St}{L:Nat}{i0:LI}{J1 Dr:Np->St->Prop}{De:Nat->Np->St->Prop}{e:ae}{U:St}(h:U[L]?=some (.loop { i0 with st:=.busy }))(k:Kg (λx=>F0 x\/x=L) U0 (λx=>F x\/x=L) U)(g:Dr F (U.set L (.loop { i0 with st:=.done,dM:=some .ret }))):Ep L (RG F0 U0 L i0 J1 Dr De) .ret e U:=by
 have aB:=(br.1 h).1;exact⟨_,h,F,k.set _ (.inl (.inr rfl)),.inr (.inl ⟨rfl,g,by rw[bO aB]⟩)⟩
def KZ(P:aG)(k:Nat)(fs cs:List V)(xs:List (List V))(cap:St->Prop):Prop:=
 ∀(S:St) (l:Nat) (J:Nat->Np->St->Prop) (D:Np->St->Prop) (F0:Np),(∀i F U,J i F U->∀x,F x->x<U.length)->(∀i F U,J i F U->cap U)->(∀i F U o,J i F U->J i F (U++[o]))->(∀F U o,D F U->D F (U++[o]))->
  (∀i F U L o o',S.length<=L->J i F U->U[L]?=some (.loop o)->J i F (U.set L (.loop o')))->(∀F U L o o',S.length<=L->D F U->U[L]?=some (.loop o)->D F (U.set L (.loop o')))->
  (∀(i:Nat) (a:List V),xs[i]?=some a->∀F U,J i F U->Kg F0 S F U->jg P l a U (λv U'=>∃F',Kg F U F' U'/\((v=.bool true/\J (i+1) F' U')\/(v=.bool false/\D F' U'))))->J 0 F0 S->
  aA P k (fs++[.dc l]++cs) S (λ_ U=>∃F,Kg F0 S F U/\(J xs.length F U\/D F U))
def Kg.ED{F G:Np}{S U:St}{o o':Ob}(h:Kg (λx=>F x\/x=S.length) (S++[o]) (λx=>G x\/x=S.length) U):Kg F S G (U.set S.length o'):=
 ⟨h.k.ED,λl hl=>(h.g l (.inl hl)).elim (λa=>a.imp id oM) λa=>.inr (by simp at a;omega)⟩
def qcX{P:aG}{g:bK}{ps:List Nat}{cV body:Code}{ca cb:C'}{N:Nat}{ts:List Nat}{Q:dV}{e:ae}{S:St}{k:Nat}{fs cs:List V}{xs:List (List V)}{cap:St->Prop}
  (hg:g.ev e=some (.fn (.func k) fs cs)) (hy:KZ P k fs cs xs cap) (na:ca.jc=true) (nb:cb.jc=true) (oO:ps.all (λp=>decide (p<N))=true) (hlen:∀a,a∈xs->a.length=ps.length)
  (F0:Np) (J:Nat->Np->St->Prop) (Dr:Np->St->Prop) (De:Nat->Np->St->Prop) (hB:∀i F U,J i F U->∀x,F x->x<U.length) (iJ:∀i F U,J i F U->cap U)
  (hJ:∀i F U,J i F U->∀o,J i F (U++[o])) (Wi:∀F U,Dr F U->∀o,Dr F (U++[o])) (Wh:∀id F U,De id F U->∀o,De id F (U++[o]))
  (AO:∀i F U L o o',S.length<=L->J i F U->U[L]?=some (.loop o)->J i F (U.set L (.loop o'))) (Dl:∀F U L o o',S.length<=L->Dr F U->U[L]?=some (.loop o)->Dr F (U.set L (.loop o'))) (LQ:∀id F U L o o',S.length<=L->De id F U->U[L]?=some (.loop o)->De id F (U.set L (.loop o')))
  (h0:J 0 F0 (S++[.loop ⟨.ready,none,ps,cV,body,e.keep ts,N⟩]))
  (hr:∀(i:Nat) (a:List V),xs[i]?=some a→∀F U,J i F U→Kg (λx=>F0 x∨x=S.length) (S++[.loop ⟨.ready,none,ps,cV,body,e.keep ts,N⟩]) (λx=>F x∨x=S.length) U→U[S.length]?=some (.loop ⟨.ready,none,ps,cV,body,e.keep ts,N⟩)→
   WP P ca (K6 P S.length cb (RG F U S.length ⟨.ready,none,ps,cV,body,e.keep ts,N⟩ (J (i+1)) Dr De)) (vB ps a (e.keep ts)) U)
  (hn:∀F U,J xs.length F U->Kg F0 S F U->Q .normal e U) (Xj:∀F U,Dr F U->Kg F0 S F U->Q .ret e U) (WM:∀id F U,De id F U->Kg F0 S F U->Q (.exit id) e U):
  WP P (.rf g ps cV body ca cb N ts) Q e S:=by
 intro oK jN;rw[hg];refine ⟨_,hy (S++[.loop ⟨.ready,none,ps,cV,body,e.keep ts,N⟩]) S.length (λi G U=>∃F,G=(λx=>F x∨x=S.length)∧J i F U∧U[S.length]?=some (.loop ⟨.ready,none,ps,cV,body,e.keep ts,N⟩))
  (λG U=>∃F,G=(λx=>F x\/x=S.length)/\((Dr F U/\U[S.length]?=some (.loop ⟨.done,some .ret,ps,cV,body,e.keep ts,N⟩))\/∃id,De id F U/\U[S.length]?=some (.loop ⟨.done,some (.exit id),ps,cV,body,e.keep ts,N⟩)))
  (λx=>F0 x\/x=S.length) ?_ (λi G U ⟨F,_,h,_⟩=>iJ i F U h) (λi G U o ⟨F,h1,h2,h3⟩=>⟨F,h1,hJ i F U h2 o,?_⟩) ?_ ?_ ?_ ?_ ⟨F0,rfl,h0,sM⟩,?_⟩
 .rintro i G U ⟨F,rfl,h,h3⟩ x (hx|rfl)
  .exact hB i F U h x hx
  .exact(br.1 h3).1
 .rw[dh (br.1 h3).1];exact h3
 .rintro G U o ⟨F,rfl,⟨h1,h2⟩|⟨id,h1,h2⟩⟩
  .exact⟨F,rfl,.inl ⟨Wi F U h1 o,by rw[dh (br.1 h2).1];exact h2⟩⟩
  .exact⟨F,rfl,.inr ⟨id,Wh id F U h1 o,by rw[dh (br.1 h2).1];exact h2⟩⟩
 .rintro i G U L o o' hL ⟨F,rfl,h1,h2⟩ h3;simp at hL;exact⟨F,rfl,AO i F U L o o' oM h1 h3,by rw[bG oM];exact h2⟩
 .rintro G U L o o' hL ⟨F,rfl,⟨h1,h2⟩|⟨id,h1,h2⟩⟩ h3
  .simp at hL;exact⟨F,rfl,.inl ⟨Dl F U L o o' oM h1 h3,by rw[bG oM];exact h2⟩⟩
  .simp at hL;exact⟨F,rfl,.inr ⟨id,LQ id F U L o o' oM h1 h3,by rw[bG oM];exact h2⟩⟩
 .rintro i a ha G U ⟨F,rfl,hj,hl⟩ hk;refine jg.mono' (jg.intro hl oK jN rfl na nb ?_ oO (hr i a ha F U hj hk hl)) ?_
  .exact hlen _ (dZ ha)
  .rintro v U' ⟨F',cI,⟨rfl,h1,h2⟩|⟨rfl,h1,h2⟩|⟨id,rfl,h1,h2⟩⟩
   .exact⟨_,cI,.inl ⟨rfl,F',rfl,h1,h2⟩⟩
   .exact⟨_,cI,.inr ⟨rfl,F',rfl,.inl ⟨h1,h2⟩⟩⟩
   .exact⟨_,cI,.inr ⟨rfl,F',rfl,.inr ⟨id,h1,h2⟩⟩⟩
 .rintro r U ⟨G,hk,⟨F,rfl,h1,h2⟩|⟨F,rfl,⟨h1,h2⟩|⟨id,h1,h2⟩⟩⟩
  .exact⟨_,h2,sM,hn F _ (AO _ F U _ _ _ cz h1 h2) hk.ED⟩
  .exact⟨_,h2,sM,Xj F _ (Dl F U _ _ _ cz h1 h2) hk.ED⟩
  .exact⟨_,h2,sM,WM id F _ (LQ id F U _ _ _ cz h1 h2) hk.ED⟩
open Go.Proofs.Tryz
abbrev ey:=List (Bz×Nat×Nat)
def ey.qQ(t:ey):cy:=t.map λe=>(e.1,e.2.1)
def wJ(e:Bz×Nat×Nat):V×V:=(.str e.1,ag e.2.2)
def fP(x:Bz)(k:Nat)(y:Bz):Ob:=.arr [.agg [af k,.str x,.str y]] 3 1
def eu(p:Pw)(X:Np)(S:St):V->List ey->Prop
 |v,[]=>v=.cu
 |v,t::r=>∃l lo lm v' bs ck,v=ag l/\(¬X l/\¬X lo/\¬X lm)/\S[l]?=aJ [.agg [ag lo,.map lm]] 2/\S[lo]?=aJ [.agg [v']] 1/\S[lm]?=some (.map (t.map wJ) bs ck)/\
  (∀e,e∈t->¬X e.2.2/\S[e.2.2]?=some (fP e.1 e.2.1 (p.f e.2.1 e.1)))/\eu p X S v' r
def aE(ts:List ey):ai:=ts.map ey.qQ
def sK:ey->Bz->Option (Nat×Nat)
 |[],_=>none
 |e::t,x=>if e.1=x then some e.2 else sK t x
def qE:List ey->Bz->Option (Nat×Nat)
 |[],_=>none
 |t::r,x=>match sK t x with
  |some p=>some p
  |none=>qE r x
def km(ts:List ey)(x:Bz):V:=match qE ts x with
 |some p=>ag p.2
 |none=>.cu
def Yi:∀(t:ey) (x:Bz),cy.at t.qQ x=(sK t x).map (·.1)
 |[],_=>rfl
 |e::t,x=>by
  have ih:=Yi t x;simp only[cy.at,ey.qQ,cQ,EY,sK]at *;by_cases h:e.1=x
  .simp[h]
  .simp only[e9 h,au h];exact ih
def CY:∀(ts:List ey) (x:Bz),(aE ts).at x=(qE ts x).map (·.1)
 |[],_=>rfl
 |t::r,x=>by
  have ih:=CY r x;simp only[aE,cQ,ai.at,qE]at *;rw[Yi]
  cases sK t x with
  |none=>exact ih
  |some p=>rfl
def qgQ:∀{t:ey} {x:Bz} {p:Nat×Nat},sK t x=some p->(x,p.1,p.2)∈t
 |e::t,x,p,h=>by
  simp only[sK]at h;split at h
  .rename_i hx;cases h;subst hx;simp
  .exact uE _ (qgQ h)
def eu.LA{p:Pw}{X:Np}{S:St}:∀{ts:List ey} {v:V} {x:Bz} {q:Nat×Nat},eu p X S v ts->qE ts x=some q->S[q.2]?=some (fP x q.1 (p.f q.1 x))
 |t::r,v,x,q,⟨l,lo,lm,v',bs,ck,_,_,_,_,_,h5,h6⟩,hf=>by
  simp only[qE]at hf;split at hf
  .rename_i q hq;cases hf;exact(h5 _ (qgQ hq)).2
  .exact eu.LA h6 hf
def Yn(x:Bz):∀(t:ey) (i:Nat),∃j,mD .str (.str x) (t.map wJ) i=some ((sK t x).map λp=>(j,ag p.2))
 |[],i=>⟨0,rfl⟩
 |e::t,i=>by
  simp only[cQ,wJ,mD,sF,sK];by_cases h:x=e.1
  .rw[show(x.data.toList==e.1.data.toList)=true by rw[h];simp,ak h.symm];exact⟨i,rfl⟩
  ·rw[show (x.data.toList==e.1.data.toList)=false by
    rw[beq_eq_false_iff_ne];intro hh;exact h (vT (xz hh)),au (Ne.symm h)]
   exact Yn x t (i+1)
def qgO{S:St}{lm:Nat}{t:ey}{bs:List Nat}{ck:Nat}(x:Bz)(h:S[lm]?=some (.map (t.map wJ) bs ck)):
  sJ S .str .cu true (.map lm) (.str x)=some (.aV [(match sK t x with|some p=>ag p.2|none=>.cu),.bool (sK t x).isSome]):=by
 obtain⟨j,hj⟩:=Yn x t 0;unfold sJ;rw[ak (by rfl)];simp only[DZ,h,hj];cases sK t x<;>rfl
def Hm{p:Pw}{X:Np}{S:St}{ts:List ey}{v:V}(h:eu p X S v ts)(x:Bz):Fn prog 60 [v,.str x] S (km ts x):=by
 refine aA.ib C60 ?_;generalize hr:km ts x=r;simp only[C60,fW];simp only[qcZ,HT,qc0,qjo,qcU];refine cE (λj e S'=>∃(aM:List ey) (v':V),j=aM.length/\eu p X S v' aM/\km aM x=r/\S'=S/\e=[(0,v'),(1,.str x)]) ts.length _ ?_ ⟨ts,v,rfl,h,hr,rfl,rfl⟩ ?_
 .exact ba
 rintro j e S' ⟨aM,v',rfl,h',jx,rfl,rfl⟩
 cases aM with
 |nil=>
  have h':v'=.cu:=h';subst h';have:r=.cu:=by rw[<-jx];rfl
  subst this;simp[gj,fH,G2];exact bu rfl ⟨rfl,rfl⟩
 |cons t r'=>
  obtain⟨l,lo,lm,v'',bs,ck,rfl,_,h2,h3,h4,h5,h6⟩:=h';have hl:=qgO x h4;simp[gj,fH,dK,ab,h2,bI,hl]
  cases hk:sK t x with
  |some p=>
   have:r=ag p.2:=by rw[<-jx];simp[km,qE,hk]
   subst this;simp[G2];exact bu rfl ⟨rfl,rfl⟩
  |none=>
   simp[gj,fH,dK,ab,h2,h3];refine⟨_,?_,_,?_,r',rfl,v'',h6,?_,rfl⟩
   .simp
   .exact ba
   .rw[<-jx];simp[km,qE,hk]
def eu.mono{p:Pw}{X X':Np}{S U:St}(hk:Kp X S U)(hX:∀l,X' l->X l\/S.length<=l):∀{ts:List ey} {v:V},eu p X S v ts->eu p X' U v ts
 |[],_,h=>h
 |t::r,v,⟨l,lo,lm,v',bs,ck,h1,⟨x1,x2,x3⟩,h2,h3,h4,h5,h6⟩=>by
  have no:∀{l:Nat} {o:Ob},S[l]?=some o->¬X l->¬X' l:=λho hn hx=>(hX _ hx).elim hn λhh=>by have:=(br.1 ho).1;omega
  exact⟨l,lo,lm,v',bs,ck,h1,⟨no h2 x1,no h3 x2,no h4 x3⟩,hk.at h2 x1,hk.at h3 x2,hk.at h4 x3,λe he=>⟨no (h5 e he).2 (h5 e he).1,hk.at (h5 e he).2 (h5 e he).1⟩,eu.mono hk hX h6⟩
def eu.sub{p:Pw}{X X':Np}{S:St}{v:V}{ts:List ey}(h:eu p X S v ts)(hX:∀l,X' l->X l):eu p X' S v ts:=h.mono (Kp.refl _ _) λl hl=>.inl (hX l hl)
def eu.more{p:Pw}{X X':Np}{S:St}{v:V}{ts:List ey}(h:eu p X S v ts)(hX:∀l,X' l->X l\/S.length<=l):eu p X' S v ts:=h.mono (Kp.refl _ _) hX
structure Cb extends Pw where
 fe:V
 fn:V
 fc:V
 I:H->Np->Np->St->Prop
 cn:H->Np
 lim:Nat
def ui(c:Cb)(n:Nat):Ob:=.arr [.agg [af n,c.fe,c.fn,c.fc]] 4 1
def grow(S:St)(F F':Np):Prop:=∀l,F' l->F l\/S.length<=l
def grow.refl(S:St)(F:Np):grow S F F:=λ_ h=>.inl h
def grow.trans{S T:St}{F G K:Np}(h:grow S F G)(g:grow T G K)(hl:S.length<=T.length):grow S F K:=λl hk=>(g l hk).elim (h l) λhh=>.inr oM
structure Wk(c:Cb)(w n:Nat)(h:c.H)(F D:Np)(S:St):Prop where
 tw:S[w]?=some (ui c n)
 st:c.I h F D S
 nF:¬F w
 nD:¬D w
 cn:c.cn h n
structure bJ(w:Nat)(F D:Np)(S:St)(F' D':Np)(U:St):Prop where
 k:Kp (λl=>l=w\/F l) S U
 gF:grow S F F'
 gD:grow S D D'
def bJ.refl(w:Nat)(F D:Np)(S:St):bJ w F D S F D S:=⟨Kp.refl _ _,grow.refl _ _,grow.refl _ _⟩
def bJ.trans{w:Nat}{F D F1 D1 F2 D2:Np}{S T U:St}(h:bJ w F D S F1 D1 T)(g:bJ w F1 D1 T F2 D2 U):bJ w F D S F2 D2 U:=
 ⟨⟨js h.k.len g.k.len,λl hl hn=>by
  rw[g.k.get l (pT hl h.k.len) λhh=>hn (hh.elim .inl λhh=>(h.gF l hh).elim .inr λhh=>by omega)];exact h.k.get l hl hn⟩,h.gF.trans g.gF h.k.len,h.gD.trans g.gD h.k.len⟩
structure Cb.Ok(c:Cb):Prop where
 lim:c.lim<=100001
 lt:∀{h F D S},c.I h F D S->∀l,F l\/D l->l<S.length
 fr:∀{h F D S U M},c.I h F D S->Kp M S U->(∀l,M l->l<S.length->¬F l/\¬D l)->c.I h F D U
 lp:∀{h F D S},c.I h F D S->∀l o,S[l]?=some (.loop o)->¬F l/\¬D l
 ce:∀{h n} x,c.cn h n->c.cn (c.nQ h n x) (n+1)
 cm:∀{h n} x sc tg,c.cn h n->c.cn (c.xh h x sc tg) n
 cc:∀{h n} x sc,c.cn h n->c.cn (c.qZ h x sc) n
 real:∀{h F D S},c.I h F D S->∀h',∃F' D' U,c.I h' F' D' U/\Kp F S U/\grow S F F'/\grow S D D'
 en:(c.fe=.bY/\(∀k x,c.f k x=x)/\∀h k x,c.nQ h k x=h)\/∃g cs,c.fe=.fn (.func g) [] cs/\∀(U:St) (p k:Nat) (x:Bz) (h:c.H) (F D:Np),U[p]?=some (fP x k x)->¬F p->¬D p->k<c.lim->c.cn h k->c.I h F D U->
  aA prog g ([ag p]++cs) U (λ_ U'=>∃F' D',c.I (c.nQ h k x) F' D' U'/\U'[p]?=some (fP x k (c.f k x))/\Kp (λl=>l=p\/F l) U U'/\grow U F F'/\∀l,D' l->D l\/l=p\/U.length<=l)
 nm:match c.nm with
  |none=>c.fn=.bY
  |some g=>∃k cs,c.fn=.fn (.func k) [] cs/\∀(U:St) (x:Ex) (v:V) (ts:List ey) (tg:Bool) (w:Nat) (h:c.H) (F D:Np),eu c.toPw (λl=>l=w\/F l) U v ts->c.I h F D U->
   aA prog k ([x.v,v,.bool tg]++cs) U (λr U'=>r=(g x (aE ts) tg).v/\∃F' D',c.I (c.xh h x (aE ts) tg) F' D' U'/\Kp F U U'/\grow U F F'/\grow U D D')
 cl:match c.cl with
  |none=>c.fc=.bY
  |some g=>∃k cs,c.fc=.fn (.func k) [] cs/\∀(U:St) (x:Bz) (v:V) (ts:List ey) (w:Nat) (h:c.H) (F D:Np),eu c.toPw (λl=>l=w\/F l) U v ts->c.I h F D U->
   aA prog k ([.str x,v]++cs) U (λr U'=>r=.str (g x (aE ts))/\∃F' D',c.I (c.qZ h x (aE ts)) F' D' U'/\Kp F U U'/\grow U F F'/\grow U D D')
def Wk.push{c:Cb}(ok:c.Ok){w n:Nat}{h:c.H}{F D:Np}{S:St}(k:Wk c w n h F D S)(os:List Ob):Wk c w n h F D (S++os):=
 ⟨by rw[dh (br.1 k.tw).1];exact k.tw,ok.fr (M:=λ_=>False) k.st ((Kp.refl _ _).push _) (λ_ h=>h.elim),k.nF,k.nD,k.cn⟩
def Wk.set{c:Cb}(ok:c.Ok){w n:Nat}{h:c.H}{F D:Np}{S:St}(k:Wk c w n h F D S){l:Nat}(o:Ob)(hw:l≠w)(hF:¬F l)(hD:¬D l):Wk c w n h F D (S.set l o):=
 ⟨by rw[bG hw];exact k.tw,ok.fr (M:=λx=>x=l) k.st ((Kp.refl _ _).set _ (.inl rfl)) (λx hx _=>by rw[hx];exact⟨hF,hD⟩),k.nF,k.nD,k.cn⟩
def Wk.out{c:Cb}(ok:c.Ok){w n:Nat}{h:c.H}{F D:Np}{S:St}(k:Wk c w n h F D S){l:Nat}(hl:S.length<=l):l≠w/\¬F l/\¬D l:=
 ⟨by rintro rfl;have:=(br.1 k.tw).1;omega,λhf=>by have:=ok.lt k.st l (.inl hf);omega,λhf=>by have:=ok.lt k.st l (.inr hf);omega⟩
def gy(w:Nat)(F D:Np)(l:Nat):Prop:=l≠w/\¬F l/\¬D l
def gy.next{w:Nat}{F D F' D':Np}{S U:St}{l:Nat}(h:gy w F D l)(hl:l<S.length)(s:bJ w F D S F' D' U):gy w F' D' l:=
 ⟨h.1,λhf=>(s.gF l hf).elim h.2.1 oM,λhf=>(s.gD l hf).elim h.2.2 oM⟩
def bJ.at{w:Nat}{F D F' D':Np}{S U:St}{l:Nat}{o:Ob}(s:bJ w F D S F' D' U)(h:gy w F D l)(ho:S[l]?=some o):U[l]?=some o:=s.k.at ho λhh=>hh.elim h.1 h.2.1
def bJ.push{w:Nat}{F D F' D':Np}{S U:St}(s:bJ w F D S F' D' U)(os:List Ob):bJ w F D S F' D' (U++os):=⟨s.k.push os,s.gF,s.gD⟩
def bJ.set{w:Nat}{F D F' D':Np}{S U:St}(s:bJ w F D S F' D' U){l:Nat}(o:Ob)(hl:S.length<=l):bJ w F D S F' D' (U.set l o):=⟨s.k.set o (.inr hl),s.gF,s.gD⟩
def bJ.ofPush{w:Nat}{F D F' D':Np}{S U:St}{os:List Ob}(s:bJ w F D (S++os) F' D' U):bJ w F D S F' D' U:=
 ⟨s.k.ofPush,λl h=>(s.gF l h).imp id λhh=>by simp at hh;omega,λl h=>(s.gD l h).imp id λhh=>by simp at hh;omega⟩
def eu.step{p:Pw}{w:Nat}{F D F' D':Np}{S U:St}{v:V}{ts:List ey}(h:eu p (λl=>l=w\/F l) S v ts)(s:bJ w F D S F' D' U):eu p (λl=>l=w\/F' l) U v ts:=
 h.mono s.k λl hh=>hh.elim (λe=>.inl (.inl e)) λe=>(s.gF l e).imp .inr id
def eu.push{p:Pw}{X:Np}{S:St}{v:V}{ts:List ey}(h:eu p X S v ts)(os:List Ob):eu p X (S++os) v ts:=h.mono ((Kp.refl _ _).push _) λ_ hh=>.inl hh
end Go.Proofs.YtbifpocccfkhhaaGreatDoor
end
