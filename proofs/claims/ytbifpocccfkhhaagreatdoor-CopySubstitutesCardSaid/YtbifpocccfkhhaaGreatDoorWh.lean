/- A part. -/
import Derived.Test.YtbifpocccfkhhaaGreatDoorWg
set_option linter.all false
noncomputable section
namespace Go.Proofs.YtbifpocccfkhhaaGreatDoor
open Go Go.Proofs.Tryz
def VM{l:List Sm}(h:0<l.length):Sm.jc l=decide (l[0].kind≠4/\l[0].kind≠5):=by
 cases l with
 |nil=>simp at h
 |cons x l=>rfl
theorem qgT:ar ⟨⟨[]⟩⟩=false:=rfl
def KL{l:List Sm}(h:0<l.length)(b:Bool)(S:St):eJ S 8 (.sl b (l.map Sm.v)) 0=some (.bG (Sm.v l[0]) 0):=pY (i:=0) h b S
def Sm.Own(nm:Bz->Bool)(s:Sm)(a0 b0 a1 b1 a2 b2 a3 b3 a4 b4:Int)(n:Bool):Prop:=
 s.aQ nm=(fN a0 b0 s.targets.length&&fN a1 b1 s.ak.length&&fN a2 b2 s.elems.length&&fN a3 b3 s.decls.length&&fN a4 b4 s.body.length&&(if n then nm s.text else e9 s.text)&&s.labels.all nm&&s.targets.all Ex.tgt&&(decide (s.kind≠4)||Sm.jc s.body))
def JJ(n:Nat):fN 0 0 n=decide (n=0)/\fN 1 1 n=decide (n=1)/\fN 1 (-1) n=decide (1<=n)/\fN 1 2 n=decide (1<=n/\n<=2)/\fN 0 8 n=decide (n<=8)/\fN 2 8 n=decide (2<=n/\n<=8):=by
 unfold fN;refine⟨?_,?_,?_,?_,?_,?_⟩<;>rw[dq]<;>simp<;>omega
def Sm.own(nm:Bz->Bool)(s:Sm):(s.kind=1->s.Own nm 0 0 0 0 0 0 0 0 0 0 false)/\(s.kind=2->s.Own nm 1 (-1) 1 1 0 0 0 0 0 0 false)/\(s.kind=3->s.Own nm 0 0 1 1 0 0 0 0 0 0 false)/\(s.kind=4->s.Own nm 0 0 1 1 0 0 0 0 1 2 false)/\
  (s.kind=5->s.Own nm 1 1 0 0 1 (-1) 0 0 1 1 false)/\(s.kind=6->s.Own nm 0 0 0 8 0 0 0 0 0 0 true)/\(s.kind=7->s.Own nm 0 0 0 0 0 0 1 (-1) 1 (-1) false)/\(s.kind=8->s.Own nm 0 0 0 0 0 0 0 0 1 (-1) false)/\(¬(1<=s.kind/\s.kind<=8)->s.aQ nm=false):=by
 cases s with
 |mk l k t g e f d b=>
 refine⟨?_,?_,?_,?_,?_,?_,?_,?_,fun h=>?_⟩
 case refine_9=>
  simp only[Sm.kind]at h;simp only[Sm.aQ,aj (show ¬k=1 by omega),aj (show ¬k=2 by omega),aj (show ¬k=3 by omega),aj (show ¬k=4 by omega),aj (show ¬k=5 by omega),aj (show ¬k=6 by omega),aj (show ¬k=7 by omega),aj (show ¬k=8 by omega),Bool.and_false]
 all_goals
  intro h
  simp only[Sm.kind]at h
  subst h
  simp[Sm.Own,Sm.aQ,Sm.targets,Sm.ak,Sm.elems,Sm.decls,Sm.body,Sm.text,Sm.labels,Sm.kind,JJ]
  ac_rfl
def EM(s:Sm)(E:af)(U:St):Prop:=∃(a0 b0 a1 b1 a2 b2 a3 b3 a4 b4:Int) (n:Bool),s.Own ar a0 b0 a1 b1 a2 b2 a3 b3 a4 b4 n/\(s.kind=4->a4=1/\b4=2)/\E.get 1=some (.ptr 0 0 0 1)/\E.get 3=some (.ptr 1 0 0 1)/\E.get 4=some (.ptr 2 0 0 1)/\E.get 5=some (.ptr 3 0 0 1)/\E.get 6=some (.ptr 4 0 0 1)/\E.get 7=some (.ptr 5 0 0 1)/\E.get 8=some (.bool n)/\
 U=[.arr [s.v] 8 1,.arr [.agg [.int .i64 a0,.int .i64 b0]] 2 1,.arr [.agg [.int .i64 a1,.int .i64 b1]] 2 1,.arr [.agg [.int .i64 a2,.int .i64 b2]] 2 1,.arr [.agg [.int .i64 a3,.int .i64 b3]] 2 1,.arr [.agg [.int .i64 a4,.int .i64 b4]] 2 1]
def EM.mk{s:Sm}{E:af}{a0 b0 a1 b1 a2 b2 a3 b3 a4 b4:Int}{n:Bool}(h:s.Own ar a0 b0 a1 b1 a2 b2 a3 b3 a4 b4 n)(h4:s.kind=4->a4=1/\b4=2)(hE:E.get 1=some (.ptr 0 0 0 1)/\E.get 3=some (.ptr 1 0 0 1)/\E.get 4=some (.ptr 2 0 0 1)/\E.get 5=some (.ptr 3 0 0 1)/\E.get 6=some (.ptr 4 0 0 1)/\E.get 7=some (.ptr 5 0 0 1)/\E.get 8=some (.bool n)):
  EM s E [.arr [s.v] 8 1,.arr [.agg [.int .i64 a0,.int .i64 b0]] 2 1,.arr [.agg [.int .i64 a1,.int .i64 b1]] 2 1,.arr [.agg [.int .i64 a2,.int .i64 b2]] 2 1,.arr [.agg [.int .i64 a3,.int .i64 b3]] 2 1,.arr [.agg [.int .i64 a4,.int .i64 b4]] 2 1]:=
 let ⟨c,d,e,f,g,i,j⟩:=hE
 ⟨_,_,_,_,_,_,_,_,_,_,_,h,h4,c,d,e,f,g,i,j,rfl⟩
def qkN(s:Sm)(hs:s.ok):∀S,Fn prog 183 [s.v] S (.bool (s.aQ ar)):=by
 refine Pu.ib O3 ?_;have hO:=(Sm.ep s).1 hs;obtain⟨w1,w2,w3,w4,w5,w6,w7,w8,w9⟩:=Sm.own ar s;simp only[O3,eZ];refine ym (EM s) ?_ ?_
 .have hc:s.kind=1\/s.kind=2\/s.kind=3\/s.kind=4\/s.kind=5\/s.kind=6\/s.kind=7\/s.kind=8\/¬(1<=s.kind/\s.kind<=8):=by omega
  rcases hc with h|h|h|h|h|h|h|h| h
  case inr.inr.inr.inr.inr.inr.inr.inr=>
   simp[aC,ae,show s.kind≠1 by omega,show s.kind≠2 by omega,show s.kind≠3 by omega,show s.kind≠4 by omega,show s.kind≠5 by omega,show s.kind≠6 by omega,show s.kind≠7 by omega,show s.kind≠8 by omega];exact aD (r:=by rw[w9 h];rfl)
  all_goals
   simp[aC,ae,aA,aE,sW,cH,bj,bz,h]
   exact EM.mk (by first|exact w1 h|exact w2 h|exact w3 h|exact w4 h|exact w5 h|exact w6 h|exact w7 h|exact w8 h) (by simp[h]) sM
 clear w1 w2 w3 w4 w5 w6 w7 w8 w9;rintro E U ⟨a0,b0,a1,b1,a2,b2,a3,b3,a4,b4,n,he,h4,g1,g3,g4,g5,g6,g7,g8,rfl⟩;unfold Sm.Own at he;rw[he];simp[g1,g3,ae,cH];refine aG (sL _ _ _ _) ?_;cases fN a0 b0 s.targets.length
 case false=>simp;exact aD (r:=by simp[aK])
 simp[g1,g4,ae,cH];refine aG (sL _ _ _ _) ?_;cases fN a1 b1 s.ak.length
 case false=>simp;exact aD (r:=by simp[aK])
 simp[g1,g5,ae,cH];refine aG (sL _ _ _ _) ?_;cases fN a2 b2 s.elems.length
 case false=>simp;exact aD (r:=by simp[aK])
 simp[g1,g6,ae,cH];refine aG (sL _ _ _ _) ?_;cases fN a3 b3 s.decls.length
 case false=>simp;exact aD (r:=by simp[aK])
 simp[g1,g7,ae,cH];refine aG (sL _ _ _ _) ?_;cases f4:fN a4 b4 s.body.length
 case false=>simp;exact aD (r:=by simp[aK])
 by_cases ht:s.text=⟨⟨[]⟩⟩<;>cases n
 case pos.true=>
  simp[g1,g8,ae,eh,dN,ht];exact aD (r:=by simp[aK,qgT])
 case neg.false=>
  simp[g1,g8,ae,eh,dN,ht];exact aD (r:=by simp[aK,VN ht])
 case' neg.true=>
  simp[g1,g8,ae,eh,dN,ht];refine aG (DR _ _) ?_;cases ar s.text
  case false=>simp;exact aD (r:=by simp[aK])
 case' pos.false=>rw[uD ht]
 all_goals
  simp[g1,g8,ae,eh,dN,ht]
  refine aG (Zz _ hO.labels.1 _) ?_
  cases s.labels.all ar
  case false=>simp;exact aD (r:=by simp[aK])
  simp[g1,ae]
  refine aG (qk1 _ hO.targets.1 _) ?_
  cases s.targets.all Ex.tgt
  case false=>simp;exact aD (r:=by simp[aK])
  by_cases hk:s.kind=4
  case neg=>
   simp[g1,ae,hk];exact aD (r:=by simp[aK])
  obtain⟨rfl,rfl⟩:=h4 hk
  have hb:0<s.body.length:=by rw[(JJ _).2.2.2.1]at f4;simp at f4;omega
  rw[VM hb]
  by_cases k4:s.body[0].kind=4
  case pos=>
   simp[g1,ae,KL hb,hk,k4];exact aD (r:=by simp[aK])
  by_cases k5:s.body[0].kind=5<;>simp[g1,ae,KL hb,hk,k4,k5]<;>exact aD (r:=by simp[aK])
def De.Own(nm:Bz->Bool)(d:De)(a0 b0 a1 b1 a2 b2 a3 b3:Int)(n:Bool):Prop:=
 d.aQ nm=(fN a0 b0 d.names.length&&fN a1 b1 d.ak.length&&fN a2 b2 d.body.length&&fN a3 b3 d.aB.length&&d.names.all nm&&(!d.own||n)&&(!n||decide (1<=d.type/\d.type<=3))&&(decide (d.kind≠3)||decide (d.type=0))&&decide (0<=d.type/\d.type<=3)&&(decide (d.kind≠2)||decide (d.ak.length%2=0))&&dH nm d.aB [])
def De.qhA(nm:Bz->Bool)(d:De):(d.kind=1->d.Own nm 1 (-1) 0 0 0 0 0 0 true)/\(d.kind=2->d.Own nm 1 (-1) 2 8 0 0 0 0 true)/\(d.kind=3->d.Own nm 1 1 1 (-1) 0 0 0 0 false)/\(d.kind=4->d.Own nm 1 1 0 0 1 1 0 8 false)/\(¬(1<=d.kind/\d.kind<=4)->d.aQ nm=false):=by
 cases d with
 |mk k o t n e f b=>
 refine⟨?_,?_,?_,?_,fun h=>?_⟩
 case refine_5=>
  simp only[De.kind]at h;simp only[De.aQ,aj (show ¬k=1 by omega),aj (show ¬k=2 by omega),aj (show ¬k=3 by omega),aj (show ¬k=4 by omega),Bool.and_false]
 all_goals
  intro h
  simp only[De.kind]at h
  subst h
  rw[De.Own,dq]
  simp only[De.aQ,De.names,De.ak,De.aB,De.body,De.own,De.type,De.kind,JJ]
  cases f<;>simp[dH]<;>grind
theorem LA(n:Nat):Int.tmod (n:Int) 2=((n%2:Nat):Int):=rfl
def EL(s:De)(E:af)(U:St):Prop:=∃(a0 b0 a1 b1 a2 b2 a3 b3:Int) (n:Bool),s.Own ar a0 b0 a1 b1 a2 b2 a3 b3 n/\E.get 1=some (.ptr 0 0 0 1)/\E.get 3=some (.ptr 1 0 0 1)/\E.get 4=some (.ptr 2 0 0 1)/\E.get 5=some (.ptr 3 0 0 1)/\E.get 6=some (.ptr 4 0 0 1)/\E.get 7=some (.bool n)/\E.get 8=some (.bool n)/\
 U=[.arr [s.v] 7 1,.arr [.agg [.int .i64 a0,.int .i64 b0]] 2 1,.arr [.agg [.int .i64 a1,.int .i64 b1]] 2 1,.arr [.agg [.int .i64 a2,.int .i64 b2]] 2 1,.arr [.agg [.int .i64 a3,.int .i64 b3]] 2 1]
def EL.mk{s:De}{E:af}{a0 b0 a1 b1 a2 b2 a3 b3:Int}{n:Bool}(h:s.Own ar a0 b0 a1 b1 a2 b2 a3 b3 n)(hE:E.get 1=some (.ptr 0 0 0 1)/\E.get 3=some (.ptr 1 0 0 1)/\E.get 4=some (.ptr 2 0 0 1)/\E.get 5=some (.ptr 3 0 0 1)/\E.get 6=some (.ptr 4 0 0 1)/\E.get 7=some (.bool n)/\E.get 8=some (.bool n)):
  EL s E [.arr [s.v] 7 1,.arr [.agg [.int .i64 a0,.int .i64 b0]] 2 1,.arr [.agg [.int .i64 a1,.int .i64 b1]] 2 1,.arr [.agg [.int .i64 a2,.int .i64 b2]] 2 1,.arr [.agg [.int .i64 a3,.int .i64 b3]] 2 1]:=
 let ⟨c,d,e,f,g,i,j⟩:=hE
 ⟨_,_,_,_,_,_,_,_,_,h,c,d,e,f,g,i,j,rfl⟩
def qkM(d:De)(hs:d.ok):∀S,Fn prog 182 [d.v] S (.bool (d.aQ ar)):=by
 refine Pu.ib O2 ?_;have hO:=(De.ep d).1 hs;obtain⟨w1,w2,w3,w4,w9⟩:=De.qhA ar d;simp only[O2,eZ];refine ym (EL d) ?_ ?_
 .have hc:d.kind=1\/d.kind=2\/d.kind=3\/d.kind=4\/¬(1<=d.kind/\d.kind<=4):=by omega
  rcases hc with h|h|h|h| h
  case inr.inr.inr.inr=>
   simp[aC,ae,aA,aE,sW,cH,bj,bz,show d.kind≠1 by omega,show d.kind≠2 by omega,show d.kind≠3 by omega,show d.kind≠4 by omega];exact aD (r:=by rw[w9 h];rfl)
  all_goals
   simp[aC,ae,aA,aE,sW,cH,bj,bz,h]
   exact EL.mk (by first|exact w1 h|exact w2 h|exact w3 h|exact w4 h) sM
 clear w1 w2 w3 w4 w9;rintro E U ⟨a0,b0,a1,b1,a2,b2,a3,b3,n,he,g1,g3,g4,g5,g6,g7,g8,rfl⟩;unfold De.Own at he;rw[he];simp[g1,g3,ae,cH];refine aG (sL _ _ _ _) ?_;cases fN a0 b0 d.names.length
 case false=>simp;exact aD (r:=by simp[aK])
 simp[g1,g4,ae,cH];refine aG (sL _ _ _ _) ?_;cases fN a1 b1 d.ak.length
 case false=>simp;exact aD (r:=by simp[aK])
 simp[g1,g5,ae,cH];refine aG (sL _ _ _ _) ?_;cases fN a2 b2 d.body.length
 case false=>simp;exact aD (r:=by simp[aK])
 simp[g1,g6,ae,cH];refine aG (sL _ _ _ _) ?_;cases fN a3 b3 d.aB.length
 case false=>simp;exact aD (r:=by simp[aK])
 simp[g1,ae];refine aG (Zz _ hO.names.1 _) ?_;cases d.names.all ar
 case false=>simp;exact aD (r:=by simp[aK])
 cases ho:d.own<;>cases n
 case true.false=>
  simp[g1,g7,g8,ae,ho];exact aD (r:=by simp[aK])
 case' false.true|true.true=>
  simp[g1,g7,g8,ae,ho];refine aG (sK _ _ _ _) ?_;by_cases ht:1<=d.type/\d.type<=3
  case neg=>
   rw[rh ht];simp;exact aD (r:=by simp[aK])
  rw[sB ht]
 all_goals
  rcases(by omega:d.kind=3/\d.type≠0\/d.kind=3/\d.type=0\/d.kind≠3) with k3|k3|k3
  case inl=>
   simp[g1,g7,ae,ho,k3];exact aD (r:=by simp[aK])
 all_goals
  simp[g1,g7,ae,ho,k3]
  refine aG (sK _ _ _ _) ?_
 all_goals
  by_cases h5:0<=d.type/\d.type<=3
  case neg=>first
   |omega
   |rw[rh h5]
    simp
    exact aD (r:=by simp[aK,h5])
  rcases(by omega:d.kind=2/\d.ak.length%2≠0\/d.kind=2/\d.ak.length%2=0\/d.kind≠2) with k2|k2|k2
  case inl=>first
   |omega
   |simp[g1,ae,LA,k2,h5,show ¬((d.ak.length:Int)%2=0) by omega]
    exact aD (r:=by simp[aK])
 all_goals first
  |omega
  |simp[g1,ae,LA,k2,h5,show(d.ak.length:Int)%2=0 by omega]
   refine aG (ZA _ hO.aB.1 _) ?_
   simp
   exact aD (r:=by simp[aK,h5])
  |simp[g1,ae,k2,k3,h5]
   refine aG (ZA _ hO.aB.1 _) ?_
   simp
   exact aD (r:=by simp[aK,h5])
structure VJ(p:Pa)(U:St):Prop where
 t2:U[1]?=some (.arr [.bool false] 1 1)
 k:U[2]?=some (.arr [p.v] 25 1)
def VJ.push{p:Pa}{U:St}(h:VJ p U)(o:Ob):VJ p (U++[o]):=⟨gp h.t2,gp h.k⟩
def VJ.set{p:Pa}{U:St}(h:VJ p U){L:Nat}(o:Ob)(hL:3<=L):VJ p (U.set L o):=⟨gs h.t2 oM,gs h.k oM⟩
def VV(p:Pa)(i:Nat):Prop:=∀q,q∈p.kids.take i->q.valid ar=true
def VD(p:Pa)(U:St):Prop:=U[1]?=some (.arr [.bool false] 1 1)/\p.valid ar=false
def VD.push{p:Pa}{U:St}(h:VD p U)(o:Ob):VD p (U++[o]):=⟨gp h.1,h.2⟩
def af.zc{e:af}{t:Nat}{v:V}:∀{ts:List Nat},t∈ts->e.get t=some v->(e.keep ts).get t=some v
 |[],h,_=>by simp at h
 |s::ts,h,hv=>by
  simp only[af.keep];by_cases hs:s=t
  .subst hs;rw[hv];simp[af.get]
  .have h':t∈ts:=by
    rcases cX.1 h with h| h
    .exact absurd h.symm hs
    .exact h
   split
   .simp only[af.get,aj hs];exact af.zc h' hv
   .exact af.zc h' hv
noncomputable def Nx:C':=(.seq (.k [.j 29 25 1,.c 30 179 29]
 (.block 1 (.rf (.t 30) [31] (dR Tryz.f151 0).1 (dR Tryz.f151 0).2
  (.reg [.o 4 (.new zP),
   .s 25 4 31])
  (.block 2 (.k [.j 32 25 4,.c 33 151 32,.o 34 (.un .not (.t 33))]
   (.d 34 (.k [.n (.jy 1 (.t 2) (.c (.bool false)))] (.ret)) (.skip))))
  35 [31,4,32,33,34,2])))
 (.k [.n (.jy 1 (.t 2) (.c (.bool true)))] (.ret)))
theorem HJ:Nx=(.seq (.k [.j 29 25 1,.c 30 179 29]
 (.block 1 (.rf (.t 30) [31] (dR Tryz.f151 0).1 (dR Tryz.f151 0).2
  (.reg [.o 4 (.new zP),
   .s 25 4 31])
  (.block 2 (.k [.j 32 25 4,.c 33 151 32,.o 34 (.un .not (.t 33))]
   (.d 34 (.k [.n (.jy 1 (.t 2) (.c (.bool false)))] (.ret)) (.skip))))
  35 [31,4,32,33,34,2])))
 (.k [.n (.jy 1 (.t 2) (.c (.bool true)))] (.ret))):=rfl
def qkv:∀(k:Nat) (p:Pa),p.wt<=k->p.ok->∀S,Fn prog 151 [p.v] S (.bool (p.valid ar)):=by
 intro k
 induction k with
 |zero=>intro p h;exfalso;cases p with
  |st s=>cases s;simp[Pa.wt]at h
  |de s=>cases s;simp[Pa.wt]at h
  |el s=>cases s;simp[Pa.wt]at h
  |ex s=>cases s;simp[Pa.wt]at h
 |succ k ih=>
  intro p hw hp;refine Pu.ib ⟨_,func151,ok151⟩ ?_;have qN:=Pa.valid_eq ar p;have range:∀e:af,p.aQ ar=true->e.get 1=some (.ptr 0 0 0 1)->e.get 2=some (.ptr 1 0 0 1)->
    WP prog Nx
     (eH [.cell 2 none] 0 fun v U=>v=.bool (p.valid ar)/\U=[]) e [.arr [p.v] 25 1,.arr [.bool false] 1 1]:=by
   intro e hown g1 g2;simp only[Nx];simp[g1,ae];refine aU (Zw p _) ?_;rintro v U ⟨rfl,rfl⟩;simp;have hkl:(p.kids.map fun q=>[q.v]).length=p.kids.length:=by simp
   refine QV (k:=202) (fs:=[]) (cs:=[.ptr 2 0 0 1]) sM (qaA p hp 2) rfl rfl rfl sM (fun x=>x=1) (by rintro x rfl;simp)
    (fun i U=>VJ p U/\VV p i) (VD p) (fun _ _=>False) ?_ ?_ ?_ ?_ (fun i U L o o' _ h hl=>⟨⟨gl h.1.t2 sM hl,gl h.1.k sM hl⟩,h.2⟩) (fun U L o o' _ h hl=>⟨gl h.1 sM hl,h.2⟩) (fun id U L o o' _ h hl=>h.elim) ?_ ?_ ?_ ?_ ?_
   .rintro i U ⟨h,_⟩;exact h.k
   .rintro i U ⟨h,h1⟩;exact fun o=>⟨h.push o,h1⟩
   .rintro U h;exact fun o=>h.push o
   .rintro id U h;exact h.elim
   .exact⟨⟨rfl,rfl⟩,fun q hq=>by simp at hq⟩
   .rintro i av hav U ⟨hj,hv⟩ hk hl;rw[dS]at hav;obtain⟨q,hq,rfl⟩:=dL.1 hav;have hqk:q∈p.kids:=dc hq;have hqw:=Pa.qR hqk;generalize hke:af.keep _ _=ke at hl |-;have g2':ke.get 2=some (.ptr 1 0 0 1):=by rw[<-hke];exact af.zc sM (by simp[g2])
    clear hke;simp at hl;simp[nT,aC,aA,aE];refine E3 (gp hl) rfl ?_;have lU:=aM hl;have nU:U.length≠3:=by omega
    have vq:((U++[Ob.arr [q.v] 25 1]).set 3 (.loop { st:=.busy,pend:=none,ps:=[31],bT:=(dR Tryz.f151 0).1,body:=(dR Tryz.f151 0).2,e:=ke,N:=35 }))[U.length]?=some (.arr [q.v] 25 1):=gs sM nU;have vL:((U++[Ob.arr [q.v] 25 1]).set 3 (.loop { st:=.busy,pend:=none,ps:=[31],bT:=(dR Tryz.f151 0).1,body:=(dR Tryz.f151 0).2,e:=ke,N:=35 }))[3]?=some (.loop _):=bJ (by simp;omega);have vj:=(hj.push (Ob.arr [q.v] 25 1)).set (L:=3) (.loop { st:=.busy,pend:=none,ps:=[31],bT:=(dR Tryz.f151 0).1,body:=(dR Tryz.f151 0).2,e:=ke,N:=35 }) oM;have vk:Kp (fun x=>x=1\/x=3) U ((U++[Ob.arr [q.v] 25 1]).set 3 (.loop { st:=.busy,pend:=none,ps:=[31],bT:=(dR Tryz.f151 0).1,body:=(dR Tryz.f151 0).2,e:=ke,N:=35 })):=((Kp.refl _ _).push _).set _ (.inl (.inr rfl));generalize (U++[Ob.arr [q.v] 25 1]).set 3 _=W at vq vL vj vk |-;simp[ae,vq];refine aG (ih q oM (Pa.wV hp hqk) W) ?_
    cases Ku:q.valid ar with
    |true=>
     simp;refine Yu ⟨rfl,rfl⟩ (.inr rfl) vL vk ⟨vj.set _ oM,?_⟩;intro r hr;rw[cY,hq]at hr;rcases cC.1 hr with hr|hr
     .exact hv r hr
     .simp at hr;subst hr;exact Ku
    |false=>
     simp[aA,jK,vj.t2,g2'];refine Yv (.inr rfl) (gs vL oM) (vk.set _ (.inl (.inl rfl))) ⟨gs (bJ (aM vj.t2)) oM,?_⟩
     cases hh:p.valid ar with
     |false=>rfl
     |true=>rw[(Pa.eQ.1 hh).2 q hqk]at Ku;cases Ku
   .rintro U ⟨hj,hv⟩ hk;rw[hkl]at hv;unfold VV at hv;rw[eR]at hv;simp[aA,jK,hj.t2,g2];refine dB (vs:=[.bool true]) (by simp[ae,g2,aM hj.t2]) ?_ rfl;rw[Pa.eQ.2 ⟨hown,hv⟩];rfl
   .rintro U ⟨h1,h2⟩ hk;simp;refine dB (vs:=[.bool false]) (by simp[ae,g2,h1]) ?_ rfl;rw[h2];rfl
   .rintro id U h;exact h.elim
  have stop:p.aQ ar=false->p.valid ar=false:=fun h=>by rw[qN,h];rfl
  cases p with
  |st s=>
   have hown:(Pa.st s).aQ ar=s.aQ ar:=rfl;simp only[c151,<-HJ];simp[aC,ae];simp only[Pa.v,Pa.kind,Pa.toS,Pa.ij,Pa.je,Pa.jf];simp[ae];refine aG (qkN s hp _) ?_
   cases ho:s.aQ ar with
   |false=>
    simp[aA,jK];refine dB rfl ?_ rfl;rw[stop (by rw[hown,ho])];rfl
   |true=>
    simp[hown,ho];exact range _ (hown.trans ho) sM sM
  |de d=>
   have hown:(Pa.de d).aQ ar=d.aQ ar:=rfl;simp only[c151,<-HJ];simp[aC,ae];simp only[Pa.v,Pa.kind,Pa.toS,Pa.ij,Pa.je,Pa.jf];simp[ae];refine aG (qkM d hp _) ?_
   cases ho:d.aQ ar with
   |false=>
    simp[aA,jK];refine dB rfl ?_ rfl;rw[stop (by rw[hown,ho])];rfl
   |true=>
    simp[hown,ho];exact range _ (hown.trans ho) sM sM
  |el e=>
   have hown:(Pa.el e).aQ ar=e.aQ:=rfl;simp only[c151,<-HJ];simp[aC,ae];simp only[Pa.v,Pa.kind,Pa.toS,Pa.ij,Pa.je,Pa.jf];simp[ae];refine aG (qkL e _) ?_
   cases ho:e.aQ with
   |false=>
    simp[aA,jK];refine dB rfl ?_ rfl;rw[stop (by rw[hown,ho])];rfl
   |true=>
    simp[hown,ho];exact range _ (hown.trans ho) sM sM
  |ex x=>
   have hown:(Pa.ex x).aQ ar=x.aQ ar:=rfl;simp only[c151,<-HJ];simp[aC,ae];simp only[Pa.v,Pa.kind,Pa.toS,Pa.ij,Pa.je,Pa.jf];simp[ae];refine aG (qkK x hp _) ?_
   cases ho:x.aQ ar with
   |false=>
    simp[aA,jK];refine dB rfl ?_ rfl;rw[stop (by rw[hown,ho])];rfl
   |true=>
    simp[hown,ho];exact range _ (hown.trans ho) sM sM
def Zf(p:Pa)(hp:p.ok):∀S,Fn prog 100 [p.v] S (.int .i64 (p.err ar)):=by
 refine Pu.ib N6 ?_;simp[N6,aC,ae];refine aU (qku p hp _) ?_;rintro v U ⟨⟨z,d,rfl,_⟩,rfl⟩;unfold Pa.err;by_cases hf:p.fits
 .simp[hf,ae];refine aG (qkv _ p bL hp _) ?_
  cases hv:p.valid ar with
  |true=>
   simp;exact aD (r:=rfl)
  |false=>
   simp;exact aD (r:=rfl)
 .simp[hf,ae];exact aD (r:=rfl)
def ZH(s:Sm)(hs:s.ok):∀S,Fn prog 56 [s.v] S (.int .i64 ((Pa.st s).err ar)):=by
 refine Pu.ib Qd ?_;simp[Qd,aC,ae];refine aG (Zg s _) ?_;simp;refine aG (Zf (.st s) hs _) ?_;simp;exact aD (r:=rfl)
def Nb(s:Ex)(hs:s.ok):∀S,Fn prog 90 [s.v] S (.int .i64 ((Pa.ex s).err ar)):=by
 refine Pu.ib Qx ?_;simp[Qx,aC,ae];refine aG (Zo s _) ?_;simp;refine aG (Zf (.ex s) hs _) ?_;simp;exact aD (r:=rfl)
def lL(s:Sm):V:=.agg [.int .i64 1,.sl false (s.labels.map .str),.int .i64 s.kind,.str s.text,.sl false (s.targets.map Ex.v),.sl false (s.ak.map Ex.v),.sl false (s.elems.map El.v),.sl false (s.decls.map De.v),.sl false (s.body.map Sm.v),.int .i64 0,.bool false,.int .i64 0,.sl true [],.sl true [],.sl true [],.sl true [],.int .i64 0,.sl true [],.int .i64 0,.int .i64 0,.int .i64 0,.int .i64 0,.int .i64 0,.str ⟨⟨[]⟩⟩,.sl true []]
def kH(d:De):V:=.agg [.int .i64 2,.sl true [],.int .i64 0,.str ⟨⟨[]⟩⟩,.sl true [],.sl true [],.sl true [],.sl true [],.sl true [],.int .i64 d.kind,.bool d.own,.int .i64 d.type,.sl false (d.names.map .str),.sl false (d.ak.map Ex.v),.sl false (d.aB.map Fo.v),.sl false (d.body.map Sm.v),.int .i64 0,.sl true [],.int .i64 0,.int .i64 0,.int .i64 0,.int .i64 0,.int .i64 0,.str ⟨⟨[]⟩⟩,.sl true []]
def lK(e:El):V:=.agg [.int .i64 3,.sl true [],.int .i64 0,.str ⟨⟨[]⟩⟩,.sl true [],.sl true [],.sl true [],.sl true [],.sl true [],.int .i64 0,.bool false,.int .i64 0,.sl true [],.sl true [],.sl true [],.sl true [],.int .i64 e.kind,.sl false (e.ak.map Ex.v),.int .i64 0,.int .i64 0,.int .i64 0,.int .i64 0,.int .i64 0,.str ⟨⟨[]⟩⟩,.sl true []]
def jd(x:Ex):V:=.agg [.int .i64 4,.sl true [],.int .i64 0,.str ⟨⟨[]⟩⟩,.sl true [],.sl true [],.sl true [],.sl true [],.sl true [],.int .i64 0,.bool false,.int .i64 0,.sl true [],.sl true [],.sl true [],.sl true [],.int .i64 0,.sl true [],.int .i64 x.kind,.int .i64 x.op,.int .i64 x.n,.int .i64 x.man,.int .i64 x.exp,.str x.text,.sl false (x.args.map Ex.v)]
def Pa.raw:Pa->V
 |.st s=>lL s
 |.de d=>kH d
 |.el e=>lK e
 |.ex x=>jd x
def Pa.Ym(p:Pa):p.raw.weak=p.v:=by
 cases p<;>simp only[Pa.raw,lL,kH,lK,jd,V.weak,V.cr,jq,m7,m8,jL,oc,i4]<;>rfl
def uI(p:Pa):fits 25 [p.raw]=true:=by cases p<;>rfl
def DG(s:Sm):∀S,Fn prog 113 [s.v] S (Pa.st s).v:=by
 refine Pu.intro (R:=fun v=>v=(Pa.st s).v) H4.g H4.o (kn rfl) (by simp[V.under]) (by rintro v rfl;simp) ?_;simp[H4,aC,ae,aA,iL,bz,bj];refine wz rfl ?_ ?_
 .simp only[aK,V.weak,V.cr,jq,m7,m8,jL,oc,i4];rfl
 .simp[aK,V.weak,V.cr,V.under,V.dj]
def Zm(s:De):∀S,Fn prog 135 [s.v] S (Pa.de s).v:=by
 refine Pu.intro (R:=fun v=>v=(Pa.de s).v) H5.g H5.o (kn rfl) (by simp[V.under]) (by rintro v rfl;simp) ?_;simp[H5,aC,ae,aA,iL,bz,bj];refine wz rfl ?_ ?_
 .simp only[aK,V.weak,V.cr,jq,m7,m8,jL,oc,i4];rfl
 .simp[aK,V.weak,V.cr,V.under,V.dj]
def DJ(s:Ex):∀S,Fn prog 141 [s.v] S (Pa.ex s).v:=by
 refine Pu.intro (R:=fun v=>v=(Pa.ex s).v) H6.g H6.o (kn rfl) (by simp[V.under]) (by rintro v rfl;simp) ?_;simp[H6,aC,ae,aA,iL,bz,bj];refine wz rfl ?_ ?_
 .simp only[aK,V.weak,V.cr,jq,m7,m8,jL,oc,i4];rfl
 .simp[aK,V.weak,V.cr,V.under,V.dj]
def Zx(p:Pa)(hp:p.ok):∀S,Fn prog 200 [p.v] S (.int .i64 p.own):=by
 refine Pu.ib Aq ?_;have h1:=Pa.G2 hp;unfold aR at h1
 cases p with
 |st s=>
  simp only[Pa.own]at h1;simp[Aq,aC,ae,Pa.v,Pa.kind,Pa.toS,Pa.own,dP (n:=1+(s.labels.length:Int)) oM oM];exact aD (r:=rfl)
 |de d=>
  simp only[Pa.own]at h1;simp[Aq,aC,ae,Pa.v,Pa.kind,Pa.ij,Pa.own,dP (n:=1+(d.names.length:Int)) oM oM,dP (n:=1+(d.names.length:Int)+d.aB.length) oM oM];exact aD (r:=rfl)
 |el e=>
  simp[Aq,aC,ae,Pa.v,Pa.kind,Pa.own];exact aD (r:=rfl)
 |ex x=>
  simp[Aq,aC,ae,Pa.v,Pa.kind,Pa.own];exact aD (r:=rfl)
def qkU(p:Pa)(hp:p.ok):∀S,Fn prog 201 [p.v] S (.int .i64 p.kids.length):=by
 refine Pu.ib Ar ?_;rw[zd]
 cases p with
 |st s=>
  have o:=(Sm.ep s).1 hp;have o1:=o.targets.1;have o2:=o.ak.1;have o3:=o.elems.1;have o4:=o.decls.1;have o5:=o.body.1;unfold aR at o1 o2 o3 o4 o5;simp[Ar,aC,ae,aA,aE,Pa.v,Pa.kind,Pa.toS,dP (n:=(s.targets.length:Int)+s.ak.length) oM oM,dP (n:=(s.targets.length:Int)+s.ak.length+s.elems.length) oM oM,
   dP (n:=(s.targets.length:Int)+s.ak.length+s.elems.length+s.decls.length) oM oM,dP (n:=(s.targets.length:Int)+s.ak.length+s.elems.length+s.decls.length+s.body.length) oM oM]
  exact aD (r:=by simp[aK];omega)
 |de d=>
  have o:=(De.ep d).1 hp;have o1:=o.ak.1;have o2:=o.body.1;unfold aR at o1 o2;simp[Ar,aC,ae,Pa.v,Pa.kind,Pa.ij,dP (n:=(d.ak.length:Int)+d.body.length) oM oM];exact aD (r:=rfl)
 |el e=>
  simp[Ar,aC,ae,Pa.v,Pa.kind,Pa.je];exact aD (r:=rfl)
 |ex x=>
  simp[Ar,aC,ae,Pa.v,Pa.kind,Pa.jf];exact aD (r:=rfl)
def ky(n:Nat)(xs:List V):V:=match xs with
 |[]=>.sl true []
 |_::_=>.arr n 0 xs.length xs.length
def ja(S:St)(xs:List V):St:=match xs with
 |[]=>S
 |_::_=>S++[.arr xs 25 1]
def TV{n:Nat}{xs:List V}(h:xs≠[]):ky n xs=.arr n 0 xs.length xs.length:=by
 cases xs with
 |nil=>exact absurd rfl h
 |cons=>rfl
def TU{S:St}{xs:List V}(h:xs≠[]):ja S xs=S++[.arr xs 25 1]:=by
 cases xs with
 |nil=>exact absurd rfl h
 |cons=>rfl
def FW{S:St}{xs:List V}{y:V}(hy:fits 25 [y]=true)(hl:xs.length<=1000000):dY (ja S xs) 25 408 (ky S.length xs) (.sl true [y])=some (ky S.length (xs++[y]),ja S (xs++[y])):=by
 rw[TV (xs:=xs++[y]) sM,TU (xs:=xs++[y]) sM]
 cases xs with
 |nil=>
  simp only[ja,ky,dY,elems];rw[aj sM,ai ⟨trivial,hy,rfl,by simp⟩];simp
 |cons x xs=>
  rw[TV sM,TU sM];simp only[dY,elems];have hg:(S++[Ob.arr (x::xs) 25 1])[S.length]?=some (.arr (x::xs) 25 1):=by simp
  rw[hg];simp only;rw[ai ⟨trivial,trivial,trivial,trivial,hy,by simp at hl |-;omega⟩];simp
def TR{S:St}{xs:List V}{l:Nat}{o:Ob}(h:S[l]?=some o):(ja S xs)[l]?=some o:=by
 cases xs with
 |nil=>exact h
 |cons=>exact gp h
def DO(S:St)(xs:List V)(l:List Ex)(hl:xs.length+l.length<=1000000):
  au prog 228 [ky S.length xs,.sl false (l.map Ex.v)] (ja S xs) (fun r U=>r=ky S.length (xs++l.map jd)/\U=ja S (xs++l.map jd)):=by
 refine au.ib PO ?_;simp only[PO,eZ];simp;refine bN (fun j e S'=>∃i:Nat,j=l.length - i∧i≤l.length∧S'=ja S (xs++(l.map jd).take i)∧
  e=[(5,.int .i64 i),(0,ky S.length (xs++(l.map jd).take i)),(1,.sl false (l.map Ex.v))]) l.length _ ?_ ⟨0,by simp,by omega,by simp,rfl⟩ ?_
 .exact aN
 rintro j e S' ⟨i,rfl,hi,rfl,rfl⟩;by_cases h:i<l.length
 .have ha:=FW (S:=S) (xs:=xs++(l.map jd).take i) (y:=jd l[i]) (uI (.ex l[i])) (by simp;omega)
  have hn:xs++(l.map jd).take i++[jd l[i]]=xs++(l.map jd).take (i+1):=by
   rw[cY,dS,bI h,dM,gZ,cO]
  rw[hn]at ha;have hf:fits 25 [jd l[i]]=true:=uI (.ex l[i]);generalize hr:jd l[i]=y at ha hf;have hb:bj (.agg [.int .i64 0,.sl true [],.int .i64 0,.str ⟨⟨[]⟩⟩,.sl true [],.sl true [],.sl true [],.sl true [],.sl true [],.int .i64 0,.bool false,.int .i64 0,.sl true [],.sl true [],.sl true [],.sl true [],.int .i64 0,.sl true [],.int .i64 0,.int .i64 0,.int .i64 0,.int .i64 0,.int .i64 0,.str ⟨⟨[]⟩⟩,.sl true []]) [(0,1,.int .i64 4),(18,7,l[i].v)]=some y:=by rw[<-hr];simp[bj,aE,jd]
  simp[h,mP,bz,hb,hf,ha,bP i];refine⟨_,?_,_,?_,i+1,rfl,by omega,rfl,rfl⟩
  .omega
  .exact aN
 .have:i=l.length:=by omega
  subst this;simp[h];refine aS rfl ⟨?_,?_⟩
  .simp only[aK];rw[iP sM]
  .rw[iP sM]
def ZD(S:St)(xs:List V)(l:List Sm)(hl:xs.length+l.length<=1000000):
  au prog 229 [ky S.length xs,.sl false (l.map Sm.v)] (ja S xs) (fun r U=>r=ky S.length (xs++l.map lL)/\U=ja S (xs++l.map lL)):=by
 refine au.ib PP ?_;simp only[PP,eZ];simp;refine bN (fun j e S'=>∃i:Nat,j=l.length - i∧i≤l.length∧S'=ja S (xs++(l.map lL).take i)∧
  e=[(5,.int .i64 i),(0,ky S.length (xs++(l.map lL).take i)),(1,.sl false (l.map Sm.v))]) l.length _ ?_ ⟨0,by simp,by omega,by simp,rfl⟩ ?_
 .exact aN
 rintro j e S' ⟨i,rfl,hi,rfl,rfl⟩;by_cases h:i<l.length
 .have ha:=FW (S:=S) (xs:=xs++(l.map lL).take i) (y:=lL l[i]) (uI (.st l[i])) (by simp;omega)
  have hn:xs++(l.map lL).take i++[lL l[i]]=xs++(l.map lL).take (i+1):=by
   rw[cY,dS,bI h,dM,gZ,cO]
  rw[hn]at ha;have hf:fits 25 [lL l[i]]=true:=uI (.st l[i]);generalize hr:lL l[i]=y at ha hf;have hb:bj (.agg [.int .i64 0,.sl true [],.int .i64 0,.str ⟨⟨[]⟩⟩,.sl true [],.sl true [],.sl true [],.sl true [],.sl true [],.int .i64 0,.bool false,.int .i64 0,.sl true [],.sl true [],.sl true [],.sl true [],.int .i64 0,.sl true [],.int .i64 0,.int .i64 0,.int .i64 0,.int .i64 0,.int .i64 0,.str ⟨⟨[]⟩⟩,.sl true []]) [(0,1,.int .i64 1),(1,8,l[i].v)]=some y:=by rw[<-hr];simp[bj,aE,lL]
  simp[h,pY,bz,hb,hf,ha,bP i];refine⟨_,?_,_,?_,i+1,rfl,by omega,rfl,rfl⟩
  .omega
  .exact aN
 .have:i=l.length:=by omega
  subst this;simp[h];refine aS rfl ⟨?_,?_⟩
  .simp only[aK];rw[iP sM]
  .rw[iP sM]
def qey(S:St)(xs:List V):Gr 25 0 xs (ky S.length xs) (ja S xs):=by
 cases xs with
 |nil=>exact .inl ⟨rfl,rfl⟩
 |cons x xs=>exact .inr ⟨S.length,1,eL _,rfl,by simp[ja],by simp⟩
def qiG(l:List Pa):(l.map Pa.raw).map V.weak=l.map Pa.v:=by
 rw[lu];exact lr fun p _=>Pa.Ym p
def FK{rs:List RV}{e:af}{S:St}{l:List Pa}(h:dm e (ja S (l.map Pa.raw)) rs=some [ky S.length (l.map Pa.raw)]):
  eH rs 0 (fun v U=>v=.sl false (l.map Pa.v)/\U=[]) .ret e (ja S (l.map Pa.raw)):=
 qcY (R:=fun v=>v=.sl false (l.map Pa.v)) h (qey S _) (fun x hx=>by
  obtain⟨p,_,rfl⟩:=cE.1 hx;rw[Pa.Ym];simp) (by rw[qiG])
def CQ(l:List Ex):l.map jd=(l.map Pa.ex).map Pa.raw:=by rw[lu];rfl
def Vw(l:List Sm):l.map lL=(l.map Pa.st).map Pa.raw:=by rw[lu];rfl
def qgI(l:List El):l.map lK=(l.map Pa.el).map Pa.raw:=by rw[lu];rfl
def qgH(l:List De):l.map kH=(l.map Pa.de).map Pa.raw:=by rw[lu];rfl
@[simp] theorem uPa(l:List Pa):V.dj 0 (l.map Pa.v)=true:=jn fun x _=>Pa.dA x
def DL(p:Pa)(hp:p.ok)(hl:p.kids.length<=2000):∀S,Fn prog 193 [p.v] S (.sl false (p.kids.map Pa.v)):=by
 refine Pu.intro (R:=fun v=>v=.sl false (p.kids.map Pa.v)) yc.g yc.o (kn rfl) sM (by rintro v rfl;simp[V.under]) ?_;rw[zd]at hl
 cases p with
 |el e=>
  simp only at hl;simp[yc,aC,ae];simp only[Pa.v,Pa.kind,Pa.toS,Pa.ij,Pa.je,Pa.jf];simp[ae];refine aU (DO [.arr [(Pa.el e).v] 25 1] [] e.ak (by simp;omega)) ?_;rintro v U ⟨rfl,rfl⟩;simp;rw[CQ];exact FK rfl
 |ex x=>
  simp only at hl;simp[yc,aC,ae];simp only[Pa.v,Pa.kind,Pa.toS,Pa.ij,Pa.je,Pa.jf];simp[ae];refine aU (DO [.arr [(Pa.ex x).v] 25 1] [] x.args (by simp;omega)) ?_;rintro v U ⟨rfl,rfl⟩;simp;rw[CQ];exact FK rfl
 |de d=>
  simp only at hl;simp[yc,aC,ae];simp only[Pa.v,Pa.kind,Pa.toS,Pa.ij,Pa.je,Pa.jf];simp[ae];refine Ft (DO [.arr [(Pa.de d).v] 25 1] [] d.ak (by simp;omega)) ?_;have h0:(ja [Ob.arr [(Pa.de d).v] 25 1] ([]++d.ak.map jd))[0]?=some (.arr [(Pa.de d).v] 25 1):=TR rfl;simp only[eK]at h0 |-;simp only[Pa.v,Pa.kind,Pa.toS,Pa.ij,Pa.je,Pa.jf]at h0 |-;simp[ae,h0];refine Ft (ZD _ (d.ak.map jd) d.body (by simp;omega)) ?_;simp[cU,dx,dG,ae,h0];rw[CQ,Vw,<-cy];exact FK rfl
 |st s=>
  simp only at hl;simp[yc,aC,ae,aA,aE];simp only[Pa.v,Pa.kind,Pa.toS,Pa.ij,Pa.je,Pa.jf];simp[ae,aA,aE,aC];obtain⟨B,hB⟩:∃B:St,B=[.arr [fO 1 s De.z El.z Ex.z] 25 1,.arr [s.v] 8 1]:=⟨_,rfl⟩;have hBl:B.length=2:=by rw[hB];rfl
  have hB1:B[1]?=some (.arr [s.v] 8 1):=by rw[hB];rfl
  have c1:=DO B [] s.targets (by simp;omega);have c2:=DO B (s.targets.map jd) s.ak (by simp;omega);rw[hBl]at c1 c2;simp only[eK]at c1;have hb1:∀xs,(ja B xs)[1]?=some (.arr [s.v] 8 1):=fun xs=>TR hB1
  have c1':au prog 228 [.sl true [],.sl false (s.targets.map Ex.v)] B (fun r U=>r=ky 2 (s.targets.map jd)/\U=ja B (s.targets.map jd)):=c1;simp only[hB]at c1';refine aU c1' ?_;rintro v U ⟨rfl,rfl⟩;simp only[<-hB];simp[ae,hb1];refine aU c2 ?_;rintro v U ⟨rfl,rfl⟩;generalize hxs:s.targets.map jd++s.ak.map jd=xs;have hxl:xs.length=s.targets.length+s.ak.length:=by rw[<-hxs];simp
  simp;refine du (fun e U=>e.get 4=some (ky 2 (xs++s.elems.map lK))/\e.get 3=some (.ptr 1 0 0 1)/\U=ja B (xs++s.elems.map lK)) ?_ ?_
  ·refine bN (fun j e S'=>∃i:Nat,j=s.elems.length - i∧i≤s.elems.length∧S'=ja B (xs++(s.elems.map lK).take i)∧
    e=[(5,.int .i64 i),(4,ky 2 (xs++(s.elems.map lK).take i)),(3,.ptr 1 0 0 1)]) s.elems.length _ ?_ ⟨0,by simp,by omega,by simp,rfl⟩ ?_
   .exact aN
   rintro j e S' ⟨i,rfl,hi,rfl,rfl⟩;by_cases h:i<s.elems.length
   .have ha:=FW (S:=B) (xs:=xs++(s.elems.map lK).take i) (y:=lK s.elems[i]) (uI (.el s.elems[i])) (by simp;omega)
    have hn:xs++(s.elems.map lK).take i++[lK s.elems[i]]=xs++(s.elems.map lK).take (i+1):=by
     rw[cY,dS,bI h,dM,gZ,cO]
    rw[hn,hBl]at ha;have hf:fits 25 [lK s.elems[i]]=true:=uI (.el s.elems[i]);generalize hr:lK s.elems[i]=y at ha hf;have hb:bj (.agg [.int .i64 0,.sl true [],.int .i64 0,.str ⟨⟨[]⟩⟩,.sl true [],.sl true [],.sl true [],.sl true [],.sl true [],.int .i64 0,.bool false,.int .i64 0,.sl true [],.sl true [],.sl true [],.sl true [],.int .i64 0,.sl true [],.int .i64 0,.int .i64 0,.int .i64 0,.int .i64 0,.int .i64 0,.str ⟨⟨[]⟩⟩,.sl true []]) [(0,1,.int .i64 3),(16,2,s.elems[i].v)]=some y:=by rw[<-hr];simp[bj,aE,lK]
    simp[h,ae,hb1,BZ,bz,hb,hf,ha,bP i];refine⟨_,?_,_,?_,i+1,rfl,by omega,rfl,rfl⟩
    .omega
    .exact aN
   .have:i=s.elems.length:=by omega
    subst this;simp[ae,hb1];rw[iP sM];exact⟨rfl,rfl⟩
  rintro e U ⟨g4,g3,rfl⟩;generalize UF:xs++s.elems.map lK=ys at *;have hyl:ys.length=s.targets.length+s.ak.length+s.elems.length:=by rw[<-UF];simp;omega
  simp[g3,g4];refine du (fun e U=>e.get 4=some (ky 2 (ys++s.decls.map kH))/\e.get 3=some (.ptr 1 0 0 1)/\U=ja B (ys++s.decls.map kH)) ?_ ?_
  ·refine bN (fun j e S'=>∃i:Nat,j=s.decls.length - i∧i≤s.decls.length∧S'=ja B (ys++(s.decls.map kH).take i)∧
    e=[(6,.int .i64 i),(4,ky 2 (ys++(s.decls.map kH).take i)),(3,.ptr 1 0 0 1)]) s.decls.length _ ?_ ⟨0,by simp,by omega,by simp,rfl⟩ ?_
   .repeat' first|exact af.fh _|refine af.dV (by simp[g3,g4]) ?_
   rintro j e S' ⟨i,rfl,hi,rfl,rfl⟩;by_cases h:i<s.decls.length
   .have ha:=FW (S:=B) (xs:=ys++(s.decls.map kH).take i) (y:=kH s.decls[i]) (uI (.de s.decls[i])) (by simp;omega)
    have hn:ys++(s.decls.map kH).take i++[kH s.decls[i]]=ys++(s.decls.map kH).take (i+1):=by
     rw[cY,dS,bI h,dM,gZ,cO]
    rw[hn,hBl]at ha;have hf:fits 25 [kH s.decls[i]]=true:=uI (.de s.decls[i]);generalize hr:kH s.decls[i]=y at ha hf;have hb:bj (.agg [.int .i64 0,.sl true [],.int .i64 0,.str ⟨⟨[]⟩⟩,.sl true [],.sl true [],.sl true [],.sl true [],.sl true [],.int .i64 0,.bool false,.int .i64 0,.sl true [],.sl true [],.sl true [],.sl true [],.int .i64 0,.sl true [],.int .i64 0,.int .i64 0,.int .i64 0,.int .i64 0,.int .i64 0,.str ⟨⟨[]⟩⟩,.sl true []]) [(0,1,.int .i64 2),(9,7,s.decls[i].v)]=some y:=by rw[<-hr];simp[bj,aE,kH]
    simp[h,ae,hb1,wP,bz,hb,hf,ha,bP i];refine⟨_,?_,_,?_,i+1,rfl,by omega,rfl,rfl⟩
    .omega
    .exact aN
   .have:i=s.decls.length:=by omega
    subst this;simp[ae,hb1];rw[iP sM];exact⟨rfl,rfl⟩
  clear g3 g4;rintro e U ⟨g4,g3,rfl⟩;have c3:=ZD B (ys++s.decls.map kH) s.body (by simp;omega);rw[hBl]at c3;simp[g3,g4,ae,hb1];refine aU c3 ?_;rintro v U ⟨rfl,rfl⟩;simp
  have hz:ys++s.decls.map kH++s.body.map lL=(Pa.st s).kids.map Pa.raw:=by
   rw[<-UF,<-hxs,CQ,CQ,qgI,qgH,Vw];simp only[Pa.kids,cy,cO]
  rw[<-cO,hz,<-hBl];exact FK sM
def Gl{l:List Pa}{i:Nat}(h:i<l.length)(b:Bool)(S:St):eJ S 25 (.sl b (l.map Pa.v)) i=some (.bG (Pa.v l[i]) 0):=wQ (f:=Pa.v) (fun _=>rfl) h b S
def SG:∀l:List Pa,(∀p,p∈l->p.depth<=p.size)->gJ l<=aY l
 |[],_=>cq _
 |p::l,h=>by
  have h1:=h p sM;have h2:=SG l fun q hq=>h q (by simp[hq])
  rw[FA,fq];omega
def qcw:∀(k:Nat) (p:Pa),p.wt<=k->p.depth<=p.size:=by
 intro k
 induction k with
 |zero=>intro p h;exfalso;cases p with
  |st s=>cases s;simp[Pa.wt]at h
  |de s=>cases s;simp[Pa.wt]at h
  |el s=>cases s;simp[Pa.wt]at h
  |ex s=>cases s;simp[Pa.wt]at h
 |succ k ih=>
  intro p hw;rw[Pa.yD,Pa.size_eq];have:=SG p.kids fun q hq=>ih q (by have:=Pa.qR hq;omega)
  have:=p.uG;omega
def jE(z:Nat)(n:Int):Int:=if(z:Int)<=n then n-z else -1
def qkH:∀(k:Nat) (p:Pa),p.wt<=k->p.ok->∀n:Int,0<=n->n<=2000->∀S,Fn prog 174 [p.v,.int .i64 n] S (.int .i64 (jE p.size n)):=by
 intro k
 induction k with
 |zero=>intro p h;exfalso;cases p with
  |st s=>cases s;simp[Pa.wt]at h
  |de s=>cases s;simp[Pa.wt]at h
  |el s=>cases s;simp[Pa.wt]at h
  |ex s=>cases s;simp[Pa.wt]at h
 |succ k ih=>
  intro p hw hp n hn0 hn1;refine Pu.ib OX ?_;have ho:=Pa.G2 hp;have hs:=p.size_eq;have hlen:=jm p.kids;unfold aR at ho
  have hkl:p.kids.length<=9007199254740992:=by
   rw[zd]
   cases p with
   |st s=>
    have o:=(Sm.ep s).1 hp;have o1:=o.targets.1;have o2:=o.ak.1;have o3:=o.elems.1;have o4:=o.decls.1;have o5:=o.body.1;unfold aR at o1 o2 o3 o4 o5;simp only;omega
   |de d=>
    have o:=(De.ep d).1 hp;have o1:=o.ak.1;have o2:=o.body.1;unfold aR at o1 o2;simp only;omega
   |el e=>have:=hp.1;unfold aR at this;simp only;omega
   |ex x=>have:=(Ex.CZ hp).1;unfold aR at this;simp only;omega
  have w1:IntKind.i64.wrap ((p.own:Int)+p.kids.length)=(p.own:Int)+p.kids.length:=dP oM oM;have w2:IntKind.i64.wrap (n-p.own)=n-p.own:=dP oM oM;simp[OX,aC,ae];refine iu (Zx p hp _) ?_;simp[ae];refine iu (qkU p hp _) ?_;simp[cU,dx,dG,ae,w1];by_cases hbig:n<(p.own:Int)+p.kids.length
  .simp[hbig];refine dB rfl ?_ rfl;unfold jE;rw[aj oM];rfl
  simp[hbig,ae];refine aG (Zx p hp _) ?_;simp[ae,w2];refine aG (DL p hp oM _) ?_;simp;refine du (fun e U=>e.get 1=some (.int .i64 (jE p.size n))) ?_ ?_
  ·refine bN (fun j e S'=>∃i:Nat,j=p.kids.length - i∧i≤p.kids.length∧
    e=[(6,.int .i64 i),(5,.sl false (p.kids.map Pa.v)),(1,.int .i64 (jE (aY (p.kids.take i)) (n-p.own)))]) p.kids.length _ ?_ ⟨0,by simp,by omega,rfl⟩ ?_
   .have hz:jE 0 (n-p.own)=n-p.own:=by unfold jE;rw[ai oM];omega
    repeat' first|exact af.fh _|refine af.dV (by simp[hz]) ?_
   rintro j e S' ⟨i,rfl,hi,rfl⟩;by_cases h:i<p.kids.length
   .have hq:p.kids[i]?=some p.kids[i]:=by simp[h]
    have q1:=MO hq;have q2:=jH hq;by_cases h0:(aY (p.kids.take i):Int)<=n-p.own
    .have hm:jE (aY (p.kids.take i)) (n-p.own)=n-p.own-aY (p.kids.take i):=by unfold jE;rw[ai h0]
     have hk:=Pa.qR (cI h);simp[h,hm,show(aY (p.kids.take i):Int)<=n-p.own by omega,Gl];refine aG (ih p.kids[i] oM (Pa.wV hp (cI h)) _ oM oM _) ?_;simp[bP i];refine⟨_,?_,_,?_,i+1,rfl,by omega,rfl⟩
     .omega
     ·exact af.dV (k:=6) (v:=.int .i64 (i+1:Nat)) sM (af.dV (k:=5) (v:=.sl false (p.kids.map Pa.v)) sM (af.dV (k:=1) (v:=.int .i64 (jE (aY (p.kids.take (i+1))) (n - p.own))) (by
      simp;rw[q1];unfold jE;split<;>split<;>omega) (af.fh _)))
    .have hm:jE (aY (p.kids.take i)) (n-p.own)=-1:=by unfold jE;rw[aj h0]
     simp[h,hm];unfold jE;rw[aj oM]
   .have:i=p.kids.length:=by omega
    subst this;simp;unfold jE;split<;>split<;>omega
  .rintro e U g;simp[g];exact dB (vs:=[.int .i64 (jE p.size n)]) sM rfl rfl
def qkP:∀(k:Nat) (p:Pa),p.wt<=k->p.ok->p.size<=2000->∀S,Fn prog 188 [p.v] S (.int .i64 p.depth):=by
 intro k
 induction k with
 |zero=>intro p h;exfalso;cases p with
  |st s=>cases s;simp[Pa.wt]at h
  |de s=>cases s;simp[Pa.wt]at h
  |el s=>cases s;simp[Pa.wt]at h
  |ex s=>cases s;simp[Pa.wt]at h
 |succ k ih=>
  intro p hw hp hsz;refine Pu.ib O7 ?_;have hs:=p.size_eq;have hlen:=jm p.kids;have hown:=p.uG;have hd:=p.yD;have hds:=qcw _ p bL;simp[O7,aC,ae];refine aG (DL p hp oM _) ?_;simp;refine du (fun e U=>e.get 3=some (.int .i64 (gJ p.kids))) ?_ ?_
  ·refine bN (fun j e S'=>∃i:Nat,j=p.kids.length - i∧i≤p.kids.length∧
    e=[(5,.int .i64 i),(4,.sl false (p.kids.map Pa.v)),(3,.int .i64 (gJ (p.kids.take i)))]) p.kids.length _ ?_ ⟨0,by simp,by omega,rfl⟩ ?_
   .exact aN
   rintro j e S' ⟨i,rfl,hi,rfl⟩;by_cases h:i<p.kids.length
   .have hq:p.kids[i]?=some p.kids[i]:=by simp[h]
    have q1:=Jr hq;have q2:=jH hq;have hk:=Pa.qR (cI h);simp[h,Gl];refine aG (ih p.kids[i] oM (Pa.wV hp (cI h)) oM _) ?_;simp[aZ,qU,bP i];refine⟨_,?_,_,?_,i+1,rfl,by omega,rfl⟩
    .omega
    ·exact af.dV (k:=5) (v:=.int .i64 (i+1:Nat)) sM (af.dV (k:=4) (v:=.sl false (p.kids.map Pa.v)) sM (af.dV (k:=3) (v:=.int .i64 (gJ (p.kids.take (i+1)))) (by
     simp;rw[q1];split<;>omega) (af.fh _)))
   .have:i=p.kids.length:=by omega
    subst this;simp
  .rintro e U g;simp[g,dP (n:=1+(gJ p.kids:Int)) oM oM];exact dB (vs:=[.int .i64 (1+gJ p.kids)]) sM (by simp[aK,hd]) rfl
def M1(p:Pa)(hp:p.ok):∀S,Fn prog 159 [p.v] S (.bool (decide p.fits)):=by
 refine Pu.ib ON ?_;simp[ON,aC,ae];refine aG (qkH _ p bL hp 2000 oM oM _) ?_;by_cases h:p.size<=2000
 .have hm:jE p.size 2000=2000-p.size:=by unfold jE;rw[ai oM]
  simp[hm,show(p.size:Int)<=2000 by omega,ae];refine aG (qkP _ p bL hp h _) ?_;simp;exact aD (r:=by simp[aK,Pa.fits,h];omega)
 .have hm:jE p.size 2000=-1:=by unfold jE;rw[aj oM]
  simp[hm];exact aD (r:=by simp[aK,Pa.fits,h])
def YL(l m:List Bz)(i:Nat):Prop:=∀j,j<i->l[j]?=m[j]?
def qjb{l m:List Bz}(hl:l.length=m.length)(h:YL l m l.length):l=m:=by
 apply ou;intro i;by_cases hi:i<l.length
 .exact h i hi
 .rw[mb oM,mb oM]
def ZF(l m:List Bz)(hl:l.length<=aR):∀S,Fn prog 233 [.sl false (l.map .str),.sl false (m.map .str)] S (.bool (decide (l=m))):=by
 refine Pu.ib Ie ?_;unfold aR at hl;by_cases hlen:l.length=m.length
 case neg=>
  have hne:¬l=m:=fun h=>hlen (by rw[h])
  simp only[dy hne];simp[Ie,show ¬((l.length:Int)=m.length) by omega];exact aD (r:=rfl)
 generalize hd:decide (l=m)=b;simp only[Ie,eZ];simp[hlen];refine bN (fun j e S'=>∃i:Nat,j=l.length - i∧i≤l.length∧YL l m i∧
  e=[(5,.int .i64 i),(0,.sl false (l.map .str)),(1,.sl false (m.map .str))]) l.length _ ?_ ⟨0,by simp,by omega,fun j hj=>by omega,rfl⟩ ?_
 .exact aN
 rintro j e S' ⟨i,rfl,hi,hq,rfl⟩;by_cases h:i<l.length
 .have h':i<m.length:=by omega
  by_cases hx:l[i]=m[i]
  .simp[h,h',jb,cU,dx,dG,hx,bP i];refine⟨_,?_,_,?_,i+1,rfl,by omega,?_,rfl⟩
   .omega
   .exact aN
   .intro j hj;by_cases hji:j=i
    .subst hji;simp[h,h',hx]
    .exact hq j oM
  .simp[h,h',jb,cU,dx,dG,hx];refine dB rfl ?_ rfl;rw[<-hd];have:¬l=m:=fun hh=>hx (by simp[hh])
   simp[aK,this]
 .have:i=l.length:=by omega
  subst this;simp;refine dB rfl ?_ rfl;rw[<-hd,jC (qjb hlen hq)];rfl
open Classical in
def qc7(f g:Fo):fU [.str f.name,.bool f.value,.int .i64 f.spec,.int .i64 f.type] [.str g.name,.bool g.value,.int .i64 g.spec,.int .i64 g.type] [(0,.s),(1,.b),(2,.i),(3,.i)]=some (decide (f=g)):=by
 by_cases h1:f.name=g.name
 .by_cases h2:f.value=g.value
  .by_cases h3:f.spec=g.spec
   .by_cases h4:f.type=g.type
    .have:f=g:=by cases f;cases g;simp at *;exact⟨h1,h2,h3,h4⟩
     simp[fU,nz,this]
    .have hb:(f.type==g.type)=false:=by simpa using h4
     have:¬f=g:=fun h=>h4 (by rw[h])
     simp[fU,nz,h1,h2,h3,hb,this]
   .have hb:(f.spec==g.spec)=false:=by simpa using h3
    have:¬f=g:=fun h=>h3 (by rw[h])
    simp[fU,nz,h1,h2,hb,this]
  .have hb:(f.value==g.value)=false:=by simpa using h2
   have:¬f=g:=fun h=>h2 (by rw[h])
   simp[fU,nz,h1,hb,this]
 .have hb:(f.name.data.toList==g.name.data.toList)=false:=by
   rw[beq_eq_false_iff_ne];intro hh;exact h1 (pE (qz hh))
  have:¬f=g:=fun h=>h1 (by rw[h])
  simp[fU,nz,hb,this]
def gy(s t:Sm):Prop:=s.targets.length=t.targets.length/\s.ak.length=t.ak.length/\s.elems.length=t.elems.length/\s.decls.length=t.decls.length/\s.body.length=t.body.length
def jN(c d:De)(e f:El)(x y:Ex):Prop:=c.ak.length=d.ak.length/\c.body.length=d.body.length/\e.ak.length=f.ak.length/\x.args.length=y.args.length
def kQ(s t:Sm):Prop:=s.kind=t.kind/\s.text=t.text/\s.labels=t.labels
def l9(c d:De):Prop:=c.kind=d.kind/\c.own=d.own/\c.type=d.type/\c.names=d.names
def mJ(x y:Ex):Prop:=x.kind=y.kind/\x.op=y.op/\x.n=y.n/\(x.man=y.man/\x.exp=y.exp)/\x.text=y.text
def qA(k k':Int)(s t:Sm)(c d:De)(e f:El)(x y:Ex):Prop:=(k=k'/\c.aB=d.aB)/\(gy s t/\jN c d e f x y)/\kQ s t/\l9 c d/\e.kind=f.kind/\mJ x y
structure Aw(e:af):Prop where
 g2:e.get 2=some (.ptr 0 0 0 1)
 g3:e.get 3=some (.ptr 1 0 0 1)
 g5:e.get 5=some (.ptr 2 0 0 1)
 g6:e.get 6=some (.ptr 3 0 0 1)
 g7:e.get 7=some (.ptr 4 0 0 1)
 g8:e.get 8=some (.ptr 5 0 0 1)
structure yf(e:af):Prop where
 g:Aw e
 g10:e.get 10=some (.ptr 6 0 0 1)
 g11:e.get 11=some (.ptr 7 0 0 1)
def TL(l m:List Fo)(i:Nat):Prop:=∀j,j<i->l[j]?=m[j]?
def qei{l m:List Fo}(hl:l.length=m.length)(h:TL l m l.length):l=m:=by
 apply ou;intro i;by_cases hi:i<l.length
 .exact h i hi
 .rw[mb oM,mb oM]
open Classical in
def HC(k k':Int)(s t:Sm)(c d:De)(e f:El)(x y:Ex)(hs:s.ok)(hc:c.ok):∀S,Fn prog 195 [fO k s c e x,fO k' t d f y] S (.bool (decide (qA k k' s t c d e f x y))):=by
 refine Pu.ib Pj ?_;have hO:=(Sm.ep s).1 hs;have hP:=(De.ep c).1 hc;have hfl:=hP.aB.1;unfold aR at hfl;obtain⟨S6,hS6⟩:∃S6:St,S6=[.arr [fO k s c e x] 25 1,.arr [fO k' t d f y] 25 1,.arr [s.v] 8 1,.arr [t.v] 8 1,.arr [c.v] 7 1,.arr [d.v] 7 1]:=⟨_,rfl⟩;obtain⟨S8,rV⟩:∃S8:St,S8=[.arr [fO k s c e x] 25 1,.arr [fO k' t d f y] 25 1,.arr [s.v] 8 1,.arr [t.v] 8 1,.arr [c.v] 7 1,.arr [d.v] 7 1,.arr [x.v] 7 1,.arr [y.v] 7 1]:=⟨_,rfl⟩;have h60:S6[0]?=some (.arr [fO k s c e x] 25 1):=by rw[hS6];rfl
 have JV:S6[1]?=some (.arr [fO k' t d f y] 25 1):=by rw[hS6];rfl
 have h64:S6[4]?=some (.arr [c.v] 7 1):=by rw[hS6];rfl
 have h65:S6[5]?=some (.arr [d.v] 7 1):=by rw[hS6];rfl
 have h80:S8[0]?=some (.arr [fO k s c e x] 25 1):=by rw[rV];rfl
 have fW:S8[1]?=some (.arr [fO k' t d f y] 25 1):=by rw[rV];rfl
 have gQ:S8[2]?=some (.arr [s.v] 8 1):=by rw[rV];rfl
 have gR:S8[3]?=some (.arr [t.v] 8 1):=by rw[rV];rfl
 have h84:S8[4]?=some (.arr [c.v] 7 1):=by rw[rV];rfl
 have gU:S8[5]?=some (.arr [d.v] 7 1):=by rw[rV];rfl
 have gV:S8[6]?=some (.arr [x.v] 7 1):=by rw[rV];rfl
 have h87:S8[7]?=some (.arr [y.v] 7 1):=by rw[rV];rfl
 have hX:∀z:Ex,z.v=.agg [.int .i64 z.kind,.int .i64 z.op,.int .i64 z.n,.int .i64 z.man,.int .i64 z.exp,.str z.text,.sl false (z.args.map Ex.v)]:=Ex.dJ;generalize hres:decide (qA k k' s t c d e f x y)=res;simp only[Pj,eZ];refine dE (fun E U=>E.get 2=some (.ptr 0 0 0 1)/\E.get 3=some (.ptr 1 0 0 1)/\U=[.arr [fO k s c e x] 25 1,.arr [fO k' t d f y] 25 1]) (by simp[aC,iF]) ?_;rintro E U ⟨g2,g3,rfl⟩;refine dE (fun E U=>E.get 2=some (.ptr 0 0 0 1)/\E.get 3=some (.ptr 1 0 0 1)/\E.get 5=some (.ptr 2 0 0 1)/\E.get 6=some (.ptr 3 0 0 1)/\U=[.arr [fO k s c e x] 25 1,.arr [fO k' t d f y] 25 1,.arr [s.v] 8 1,.arr [t.v] 8 1]) ?_ ?_
 .simp[g2,g3,fg,ae,aA,aE,cU,dx,dG]
 clear g2 g3 E;rintro E U ⟨g2,g3,g5,g6,rfl⟩;refine dE (fun E U=>Aw E/\U=S6) ?_ ?_
 .simp[g2,g3,fg,ae,aA,aE,cU,dx,dG];exact⟨⟨by simp[g2],by simp[g3],by simp[g5],by simp[g6],by simp,by simp⟩,hS6.symm⟩
 clear g2 g3 g5 g6 E;rintro E U ⟨⟨g2,g3,g5,g6,g7,g8⟩,hU⟩;rw[hU];clear hU U;refine dE (fun E U=>Aw E/\U=S6/\k=k'/\c.aB.length=d.aB.length) ?_ ?_
 .by_cases hk:k=k'
  case neg=>
   simp[g2,g3,g7,g8,ae,h60,JV,h64,h65,hk];refine dB rfl ?_ rfl;rw[<-hres,dy (fun h=>hk h.1.1)];rfl
  by_cases hf:c.aB.length=d.aB.length
  case neg=>
   simp[g2,g3,g7,g8,ae,h60,JV,h64,h65,hk,show ¬((c.aB.length:Int)=d.aB.length) by omega];refine dB rfl ?_ rfl;rw[<-hres,dy (fun h=>hf (by rw[h.1.2]))];rfl
  simp[g2,g3,g7,g8,ae,h60,JV,h64,h65,hk,hf];exact⟨by simp[g2],by simp[g3],by simp[g5],by simp[g6],by simp[g7],by simp[g8]⟩
 clear g2 g3 g5 g6 g7 g8 E;rintro E U ⟨⟨g2,g3,g5,g6,g7,g8⟩,hU,hkk,Ge⟩;rw[hU];clear hU U;refine dE (fun E U=>Aw E/\U=S6/\c.aB=d.aB) ?_ ?_
 ·simp;refine du (fun E U=>Aw E∧U=S6∧c.aB=d.aB) ?_ (fun E U h=>h);refine bN (fun j E U=>∃i:Nat,j=c.aB.length - i∧i≤c.aB.length∧TL c.aB d.aB i∧U=S6∧
   E=[(9,.int .i64 i),(2,.ptr 0 0 0 1),(3,.ptr 1 0 0 1),(5,.ptr 2 0 0 1),(6,.ptr 3 0 0 1),(7,.ptr 4 0 0 1),(8,.ptr 5 0 0 1)]) c.aB.length _ ?_ ⟨0,by simp,by omega,fun j hj=>by omega,rfl,rfl⟩ ?_
  .repeat' first|exact af.fh _|refine af.dV (by simp[g2,g3,g5,g6,g7,g8]) ?_
  rintro j E' U ⟨i,rfl,hi,hq,hU,rfl⟩;rw[hU];clear hU U;by_cases h:i<c.aB.length
  .have h':i<d.aB.length:=by omega
   have hef:=qc7 c.aB[i] d.aB[i];by_cases hx:c.aB[i]=d.aB[i]
   .rw[jC hx]at hef;simp[h,h',ae,h64,h65,qO,aZ,Fo.v,cH,hef,cU,dx,dG,bP i];refine⟨_,?_,_,?_,i+1,rfl,by omega,?_,rfl⟩
    .omega
    .exact aN
    .intro j hj;by_cases hji:j=i
     .subst hji;simp[h,h',hx]
     .exact hq j oM
   .rw[dy hx]at hef;simp[h,h',ae,h64,h65,qO,aZ,Fo.v,cH,hef,cU,dx,dG];refine dB rfl ?_ rfl;rw[<-hres,dy (fun hh=>hx (by simp[hh.1.2]))];rfl
  .have:i=c.aB.length:=by omega
   subst this;simp[h,ae,h64,h65];exact⟨⟨by simp,by simp,by simp,by simp,by simp,by simp⟩,qei Ge hq⟩
 clear g2 g3 g5 g6 g7 g8 E;rintro E U ⟨⟨g2,g3,g5,g6,g7,g8⟩,hU,hfo⟩;rw[hU];clear hU U;refine dE (fun E U=>yf E/\U=S8) ?_ ?_
 .simp only[hS6];simp[g2,g3,fg,ae,aA,aE,cU,dx,dG];exact⟨⟨⟨by simp[g2],by simp[g3],by simp[g5],by simp[g6],by simp[g7],by simp[g8]⟩,by simp,by simp⟩,rV.symm⟩
 clear g2 g3 g5 g6 g7 g8 E;rintro E U ⟨⟨⟨g2,g3,g5,g6,g7,g8⟩,g10,g11⟩,hU⟩;rw[hU];clear hU U;refine dE (fun E U=>yf E/\E.get 12=some (.bool (decide (gy s t)))/\U=S8) ?_ ?_
 .generalize hv:decide (gy s t)=v;by_cases a0:s.targets.length=t.targets.length
  case neg=>
   simp[g2,g3,g5,g6,g7,g8,g10,g11,ae,h80,fW,gQ,gR,h84,gU,gV,h87,show ¬((s.targets.length:Int)=t.targets.length) by omega];refine⟨⟨⟨by simp[g2],by simp[g3],by simp[g5],by simp[g6],by simp[g7],by simp[g8]⟩,by simp[g10],by simp[g11]⟩,by rw[<-hv,dy (fun hh:gy s t=>a0 hh.1)]⟩
  by_cases a1:s.ak.length=t.ak.length
  case neg=>
   simp[g2,g3,g5,g6,g7,g8,g10,g11,ae,h80,fW,gQ,gR,h84,gU,gV,h87,a0,show ¬((s.ak.length:Int)=t.ak.length) by omega];refine⟨⟨⟨by simp[g2],by simp[g3],by simp[g5],by simp[g6],by simp[g7],by simp[g8]⟩,by simp[g10],by simp[g11]⟩,by rw[<-hv,dy (fun hh:gy s t=>a1 hh.2.1)]⟩
  by_cases a2:s.elems.length=t.elems.length
  case neg=>
   simp[g2,g3,g5,g6,g7,g8,g10,g11,ae,h80,fW,gQ,gR,h84,gU,gV,h87,a0,a1,show ¬((s.elems.length:Int)=t.elems.length) by omega];refine⟨⟨⟨by simp[g2],by simp[g3],by simp[g5],by simp[g6],by simp[g7],by simp[g8]⟩,by simp[g10],by simp[g11]⟩,by rw[<-hv,dy (fun hh:gy s t=>a2 hh.2.2.1)]⟩
  by_cases a3:s.decls.length=t.decls.length
  case neg=>
   simp[g2,g3,g5,g6,g7,g8,g10,g11,ae,h80,fW,gQ,gR,h84,gU,gV,h87,a0,a1,a2,show ¬((s.decls.length:Int)=t.decls.length) by omega];refine⟨⟨⟨by simp[g2],by simp[g3],by simp[g5],by simp[g6],by simp[g7],by simp[g8]⟩,by simp[g10],by simp[g11]⟩,by rw[<-hv,dy (fun hh:gy s t=>a3 hh.2.2.2.1)]⟩
  by_cases a4:s.body.length=t.body.length
  case neg=>
   simp[g2,g3,g5,g6,g7,g8,g10,g11,ae,h80,fW,gQ,gR,h84,gU,gV,h87,a0,a1,a2,a3,show ¬((s.body.length:Int)=t.body.length) by omega];refine⟨⟨⟨by simp[g2],by simp[g3],by simp[g5],by simp[g6],by simp[g7],by simp[g8]⟩,by simp[g10],by simp[g11]⟩,by rw[<-hv,dy (fun hh:gy s t=>a4 hh.2.2.2.2)]⟩
  simp[g2,g3,g5,g6,g7,g8,g10,g11,ae,h80,fW,gQ,gR,h84,gU,gV,h87,a0,a1,a2,a3,a4];refine⟨⟨⟨by simp[g2],by simp[g3],by simp[g5],by simp[g6],by simp[g7],by simp[g8]⟩,by simp[g10],by simp[g11]⟩,by rw[<-hv,jC ⟨a0,a1,a2,a3,a4⟩]⟩
 clear g2 g3 g5 g6 g7 g8 g10 g11 E;rintro E U ⟨⟨⟨g2,g3,g5,g6,g7,g8⟩,g10,g11⟩,g12,hU⟩;rw[hU];clear hU U;refine dE (fun E U=>yf E/\E.get 12=some (.bool (decide (gy s t/\jN c d e f x y)))/\U=S8) ?_ ?_
 .generalize hv:decide (gy s t/\jN c d e f x y)=v;by_cases b0:gy s t
  case neg=>
   rw[dy b0]at g12;simp[g2,g3,g5,g6,g7,g8,g10,g11,ae,h80,fW,gQ,gR,h84,gU,gV,h87,g12];refine⟨⟨⟨by simp[g2],by simp[g3],by simp[g5],by simp[g6],by simp[g7],by simp[g8]⟩,by simp[g10],by simp[g11]⟩,by rw[<-hv,dy (fun hh=>b0 hh.1)]⟩
  rw[jC b0]at g12;by_cases a0:c.ak.length=d.ak.length
  case neg=>
   simp[g2,g3,g5,g6,g7,g8,g10,g11,ae,h80,fW,gQ,gR,h84,gU,gV,h87,g12,show ¬((c.ak.length:Int)=d.ak.length) by omega];refine⟨⟨⟨by simp[g2],by simp[g3],by simp[g5],by simp[g6],by simp[g7],by simp[g8]⟩,by simp[g10],by simp[g11]⟩,by rw[<-hv,dy (fun hh:gy s t/\jN c d e f x y=>a0 hh.2.1)]⟩
  by_cases a1:c.body.length=d.body.length
  case neg=>
   simp[g2,g3,g5,g6,g7,g8,g10,g11,ae,h80,fW,gQ,gR,h84,gU,gV,h87,a0,g12,show ¬((c.body.length:Int)=d.body.length) by omega];refine⟨⟨⟨by simp[g2],by simp[g3],by simp[g5],by simp[g6],by simp[g7],by simp[g8]⟩,by simp[g10],by simp[g11]⟩,by rw[<-hv,dy (fun hh:gy s t/\jN c d e f x y=>a1 hh.2.2.1)]⟩
  by_cases a2:e.ak.length=f.ak.length
  case neg=>
   simp[g2,g3,g5,g6,g7,g8,g10,g11,ae,h80,fW,gQ,gR,h84,gU,gV,h87,a0,a1,g12,show ¬((e.ak.length:Int)=f.ak.length) by omega];refine⟨⟨⟨by simp[g2],by simp[g3],by simp[g5],by simp[g6],by simp[g7],by simp[g8]⟩,by simp[g10],by simp[g11]⟩,by rw[<-hv,dy (fun hh:gy s t/\jN c d e f x y=>a2 hh.2.2.2.1)]⟩
  by_cases a3:x.args.length=y.args.length
  case neg=>
   simp[g2,g3,g5,g6,g7,g8,g10,g11,ae,h80,fW,gQ,gR,h84,gU,gV,h87,a0,a1,a2,g12,show ¬((x.args.length:Int)=y.args.length) by omega];refine⟨⟨⟨by simp[g2],by simp[g3],by simp[g5],by simp[g6],by simp[g7],by simp[g8]⟩,by simp[g10],by simp[g11]⟩,by rw[<-hv,dy (fun hh:gy s t/\jN c d e f x y=>a3 hh.2.2.2.2)]⟩
  simp[g2,g3,g5,g6,g7,g8,g10,g11,ae,h80,fW,gQ,gR,h84,gU,gV,h87,a0,a1,a2,a3,g12];refine⟨⟨⟨by simp[g2],by simp[g3],by simp[g5],by simp[g6],by simp[g7],by simp[g8]⟩,by simp[g10],by simp[g11]⟩,by rw[<-hv,jC ⟨b0,a0,a1,a2,a3⟩]⟩
 clear g2 g3 g5 g6 g7 g8 g10 g11 g12 E;rintro E U ⟨⟨⟨g2,g3,g5,g6,g7,g8⟩,g10,g11⟩,g12,hU⟩;rw[hU];clear hU U;refine dE (fun E U=>yf E/\E.get 12=some (.bool (decide (gy s t/\jN c d e f x y)))/\E.get 13=some (.bool (decide (kQ s t)))/\U=S8) ?_ ?_
 .generalize hv:decide (kQ s t)=v;generalize decide (gy s t/\jN c d e f x y)=v12 at *;by_cases a0:s.kind=t.kind
  case neg=>
   simp[g2,g3,g5,g6,g7,g8,g10,g11,ae,h80,fW,gQ,gR,h84,gU,gV,h87,a0];refine⟨⟨⟨by simp[g2],by simp[g3],by simp[g5],by simp[g6],by simp[g7],by simp[g8]⟩,by simp[g10],by simp[g11]⟩,by simp[g12],by rw[<-hv,dy (fun hh:kQ s t=>a0 hh.1)]⟩
  by_cases a1:s.text=t.text
  case neg=>
   simp[g2,g3,g5,g6,g7,g8,g10,g11,ae,h80,fW,gQ,gR,h84,gU,gV,h87,a0,a1];refine⟨⟨⟨by simp[g2],by simp[g3],by simp[g5],by simp[g6],by simp[g7],by simp[g8]⟩,by simp[g10],by simp[g11]⟩,by simp[g12],by rw[<-hv,dy (fun hh:kQ s t=>a1 hh.2.1)]⟩
  simp[g2,g3,g5,g6,g7,g8,g10,g11,ae,h80,fW,gQ,gR,h84,gU,gV,h87,a0,a1];refine aG (ZF s.labels t.labels hO.labels.1 _) ?_;by_cases a2:s.labels=t.labels
  case neg=>
   simp[a2];refine⟨⟨⟨by simp[g2],by simp[g3],by simp[g5],by simp[g6],by simp[g7],by simp[g8]⟩,by simp[g10],by simp[g11]⟩,by simp[g12],by rw[<-hv,dy (fun hh:kQ s t=>a2 hh.2.2)]⟩
  simp[g2,g3,g5,g6,g7,g8,g10,g11,ae,h80,fW,gQ,gR,h84,gU,gV,h87,a0,a1,a2];refine⟨⟨⟨by simp[g2],by simp[g3],by simp[g5],by simp[g6],by simp[g7],by simp[g8]⟩,by simp[g10],by simp[g11]⟩,by simp[g12],by rw[<-hv,jC ⟨a0,a1,a2⟩]⟩
 clear g2 g3 g5 g6 g7 g8 g10 g11 g12 E;rintro E U ⟨⟨⟨g2,g3,g5,g6,g7,g8⟩,g10,g11⟩,g12,g13,hU⟩;rw[hU];clear hU U;refine dE (fun E U=>yf E/\E.get 12=some (.bool (decide (gy s t/\jN c d e f x y)))/\E.get 13=some (.bool (decide (kQ s t)))/\E.get 14=some (.bool (decide (l9 c d)))/\U=S8) ?_ ?_
 .generalize hv:decide (l9 c d)=v;generalize decide (gy s t/\jN c d e f x y)=v12 at *;generalize decide (kQ s t)=v13 at *;by_cases a0:c.kind=d.kind
  case neg=>
   simp[g2,g3,g5,g6,g7,g8,g10,g11,ae,h80,fW,gQ,gR,h84,gU,gV,h87,eh,dN,a0];refine⟨⟨⟨by simp[g2],by simp[g3],by simp[g5],by simp[g6],by simp[g7],by simp[g8]⟩,by simp[g10],by simp[g11]⟩,by simp[g12],by simp[g13],by rw[<-hv,dy (fun hh:l9 c d=>a0 hh.1)]⟩
  by_cases a1:c.own=d.own
  case neg=>
   simp[g2,g3,g5,g6,g7,g8,g10,g11,ae,h80,fW,gQ,gR,h84,gU,gV,h87,a0,eh,dN,eh,dN,show(c.own==d.own)=false by simpa using a1];refine⟨⟨⟨by simp[g2],by simp[g3],by simp[g5],by simp[g6],by simp[g7],by simp[g8]⟩,by simp[g10],by simp[g11]⟩,by simp[g12],by simp[g13],by rw[<-hv,dy (fun hh:l9 c d=>a1 hh.2.1)]⟩
  by_cases a2:c.type=d.type
  case neg=>
   simp[g2,g3,g5,g6,g7,g8,g10,g11,ae,h80,fW,gQ,gR,h84,gU,gV,h87,a0,a1,eh,dN,eh,dN,a2];refine⟨⟨⟨by simp[g2],by simp[g3],by simp[g5],by simp[g6],by simp[g7],by simp[g8]⟩,by simp[g10],by simp[g11]⟩,by simp[g12],by simp[g13],by rw[<-hv,dy (fun hh:l9 c d=>a2 hh.2.2.1)]⟩
  simp[g2,g3,g5,g6,g7,g8,g10,g11,ae,h80,fW,gQ,gR,h84,gU,gV,h87,a0,a1,a2,eh,dN];refine aG (ZF c.names d.names hP.names.1 _) ?_;by_cases a3:c.names=d.names
  case neg=>
   simp[a3];refine⟨⟨⟨by simp[g2],by simp[g3],by simp[g5],by simp[g6],by simp[g7],by simp[g8]⟩,by simp[g10],by simp[g11]⟩,by simp[g12],by simp[g13],by rw[<-hv,dy (fun hh:l9 c d=>a3 hh.2.2.2)]⟩
  simp[g2,g3,g5,g6,g7,g8,g10,g11,ae,h80,fW,gQ,gR,h84,gU,gV,h87,a0,a1,a2,a3,eh,dN];refine⟨⟨⟨by simp[g2],by simp[g3],by simp[g5],by simp[g6],by simp[g7],by simp[g8]⟩,by simp[g10],by simp[g11]⟩,by simp[g12],by simp[g13],by rw[<-hv,jC ⟨a0,a1,a2,a3⟩]⟩
 clear g2 g3 g5 g6 g7 g8 g10 g11 g12 g13 E;rintro E U ⟨⟨⟨g2,g3,g5,g6,g7,g8⟩,g10,g11⟩,g12,g13,g14,hU⟩;rw[hU];clear hU U;refine dE (fun E U=>yf E/\E.get 12=some (.bool (decide (gy s t/\jN c d e f x y)))/\E.get 13=some (.bool (decide (kQ s t)))/\E.get 14=some (.bool (decide (l9 c d)))/\E.get 15=some (.bool (decide (mJ x y)))/\U=S8) ?_ ?_
 .generalize hv:decide (mJ x y)=v;generalize decide (gy s t/\jN c d e f x y)=v12 at *;generalize decide (kQ s t)=v13 at *;generalize decide (l9 c d)=v14 at *;by_cases a0:x.kind=y.kind
  case neg=>
   simp[g2,g3,g5,g6,g7,g8,g10,g11,ae,h80,fW,gQ,gR,h84,gU,gV,h87,aZ,jD,a0];refine⟨⟨⟨by simp[g2],by simp[g3],by simp[g5],by simp[g6],by simp[g7],by simp[g8]⟩,by simp[g10],by simp[g11]⟩,by simp[g12],by simp[g13],by simp[g14],by rw[<-hv,dy (fun hh:mJ x y=>a0 hh.1)]⟩
  by_cases a1:x.op=y.op
  case neg=>
   simp[g2,g3,g5,g6,g7,g8,g10,g11,ae,h80,fW,gQ,gR,h84,gU,gV,h87,a0,aZ,jD,a1];refine⟨⟨⟨by simp[g2],by simp[g3],by simp[g5],by simp[g6],by simp[g7],by simp[g8]⟩,by simp[g10],by simp[g11]⟩,by simp[g12],by simp[g13],by simp[g14],by rw[<-hv,dy (fun hh:mJ x y=>a1 hh.2.1)]⟩
  by_cases a2:x.n=y.n
  case neg=>
   simp[g2,g3,g5,g6,g7,g8,g10,g11,ae,h80,fW,gQ,gR,h84,gU,gV,h87,a0,a1,aZ,jD,a2];refine⟨⟨⟨by simp[g2],by simp[g3],by simp[g5],by simp[g6],by simp[g7],by simp[g8]⟩,by simp[g10],by simp[g11]⟩,by simp[g12],by simp[g13],by simp[g14],by rw[<-hv,dy (fun hh:mJ x y=>a2 hh.2.2.1)]⟩
  by_cases a3:x.man=y.man/\x.exp=y.exp
  case neg=>
   simp[g2,g3,g5,g6,g7,g8,g10,g11,ae,h80,fW,gQ,gR,h84,gU,gV,h87,a0,a1,a2,aZ,jD,aZ,jD,a3];refine⟨⟨⟨by simp[g2],by simp[g3],by simp[g5],by simp[g6],by simp[g7],by simp[g8]⟩,by simp[g10],by simp[g11]⟩,by simp[g12],by simp[g13],by simp[g14],by rw[<-hv,dy (fun hh:mJ x y=>a3 hh.2.2.2.1)]⟩
  by_cases a4:x.text=y.text
  case neg=>
   simp[g2,g3,g5,g6,g7,g8,g10,g11,ae,h80,fW,gQ,gR,h84,gU,gV,h87,a0,a1,a2,a3,aZ,jD,aZ,jD,a4];refine⟨⟨⟨by simp[g2],by simp[g3],by simp[g5],by simp[g6],by simp[g7],by simp[g8]⟩,by simp[g10],by simp[g11]⟩,by simp[g12],by simp[g13],by simp[g14],by rw[<-hv,dy (fun hh:mJ x y=>a4 hh.2.2.2.2)]⟩
  simp[g2,g3,g5,g6,g7,g8,g10,g11,ae,h80,fW,gQ,gR,h84,gU,gV,h87,a0,a1,a2,a3,a4,aZ,jD];refine⟨⟨⟨by simp[g2],by simp[g3],by simp[g5],by simp[g6],by simp[g7],by simp[g8]⟩,by simp[g10],by simp[g11]⟩,by simp[g12],by simp[g13],by simp[g14],by rw[<-hv,jC ⟨a0,a1,a2,a3,a4⟩]⟩
 clear g2 g3 g5 g6 g7 g8 g10 g11 g12 g13 g14 E;rintro E U ⟨⟨⟨g2,g3,g5,g6,g7,g8⟩,g10,g11⟩,g12,g13,g14,g15,hU⟩;rw[hU];clear hU U
 have hfin:res=(decide (gy s t/\jN c d e f x y)&&decide (kQ s t)&&decide (l9 c d)&&decide (e.kind=f.kind)&&decide (mJ x y)):=by
  rw[<-hres,dq];rw[cR,bZ,bZ,bZ,bZ,cR,cR,cR,cR,cR];unfold qA;constructor
  .rintro⟨_,h2,h3,h4,h5,h6⟩;exact⟨⟨⟨⟨h2,h3⟩,h4⟩,h5⟩,h6⟩
  .rintro⟨⟨⟨⟨h2,h3⟩,h4⟩,h5⟩,h6⟩;exact⟨⟨hkk,hfo⟩,h2,h3,h4,h5,h6⟩
 generalize decide (gy s t/\jN c d e f x y)=v12 at *;generalize decide (kQ s t)=v13 at *;generalize decide (l9 c d)=v14 at *;generalize decide (mJ x y)=v15 at *
 cases v12 with
 |false=>simp[g12];exact aD (r:=by rw[hfin];rfl)
 |true=>
  cases v13 with
  |false=>simp[g12,g13];exact aD (r:=by rw[hfin];rfl)
  |true=>
   cases v14 with
   |false=>simp[g12,g13,g14];exact aD (r:=by rw[hfin];rfl)
   |true=>
    by_cases he:e.kind=f.kind
    .simp[g2,g3,ae,h80,fW,g12,g13,g14,g15,he];exact aD (r:=by rw[hfin];simp[aK,he])
    .simp[g2,g3,ae,h80,fW,g12,g13,g14,g15,he];exact aD (r:=by rw[hfin];simp[aK,he])
def qk7(m e:Int):∀S,Fn prog 226 [.agg [.int .i64 m,.int .i64 e]] S (.bool (pa m e)):=by
 refine Pu.intro (R:=fun v=>v=.bool (pa m e)) ni.g ni.o (kn rfl) (by simp[V.under,V.dj]) (by rintro v rfl;rfl) ?_;have hr:pa m e=(decide (m=0/\e=0)||(decide (1<=jY m/\jY m<16777216)&&(decide (e=-150)||(decide (8388608<=jY m)&&decide (-150<e/\e<=150))))):=rfl;generalize hres:pa m e=r at hr |-
 have fin:∀a:Int,jY m=a->¬a=0->r=(decide (1<=a/\a<16777216)&&(decide (e=-150)||(decide (8388608<=a)&&decide (-150<e/\e<=150)))):=fun a ha h0=>by
  have hm:¬(m=0/\e=0):=fun h=>h0 (by rw[<-ha,h.1];rfl)
  rw[hr,dy hm,ha];rfl
 have key:∀(E:af) (S:St) (a:Int),jY m=a->E.get 3=some (.int .i64 a)->E.get 1=some (.ptr 0 0 0 1)->S=[.arr [.agg [.int .i64 m,.int .i64 e]] 2 1]->
   WP prog (match ni.c.body with|.seq _ (.seq _ (.seq _ b))=>b|x=>x) (eH [.t 2] 0 fun v U=>v=.bool r/\U=[]) E S:=by
  rintro E S a ha g3 g1 rfl;by_cases h0:a=0
  .have hr0:r=decide (m=0/\e=0):=by
    rw[hr,ha,h0];simp
   by_cases hm:m=0
   .simp[ni,g3,g1,h0,ae,hm];exact aD (r:=by rw[hr0];simp[aK,hm])
   .simp[ni,g3,g1,h0,ae,hm];exact aD (r:=by rw[hr0];simp[aK,hm])
  have hf:=fin a ha h0;by_cases h1:a<0
  .simp[ni,g3,g1,h0,h1,ae];exact aD (r:=by rw[hf];simp[aK];omega)
  by_cases h2:16777216<=a
  .simp[ni,g3,g1,h0,h1,h2,ae];exact aD (r:=by rw[hf];simp[aK];omega)
  by_cases h3:e< -150
  .simp[ni,g3,g1,h0,h1,h2,h3,ae];exact aD (r:=by rw[hf];simp[aK];omega)
  by_cases h4:150<e
  .simp[ni,g3,g1,h0,h1,h2,h3,h4,ae];exact aD (r:=by rw[hf];simp[aK];omega)
  by_cases h5:8388608<=a
  .simp[ni,g3,g1,h0,h1,h2,h3,h4,h5,ae];exact aD (r:=by rw[hf];simp[aK];omega)
  .simp[ni,g3,g1,h0,h1,h2,h3,h4,h5,ae];refine dB rfl ?_ rfl;rw[hf];simp only[aK,V.bool.injEq];rw[dq];simp;omega
 by_cases hm:m<0
 .have ha:jY m=IntKind.i64.wrap (-m):=by unfold jY;rw[ai hm]
  have k:=fun E S=>key E S _ ha
  simp only[ni,eZ]at k |-;refine dE (fun E S=>E.get 1=some (.ptr 0 0 0 1)/\S=[.arr [.agg [.int .i64 m,.int .i64 e]] 2 1]) (by simp[aC,iF]) ?_;rintro E S ⟨g1,rfl⟩;refine dE (fun E S=>E.get 1=some (.ptr 0 0 0 1)/\E.get 3=some (.int .i64 m)/\S=[.arr [.agg [.int .i64 m,.int .i64 e]] 2 1]) (by simp[g1,ae]) ?_;rintro E S ⟨g1,g3,rfl⟩;refine dE (fun E S=>E.get 1=some (.ptr 0 0 0 1)/\E.get 3=some (.int .i64 (IntKind.i64.wrap (-m)))/\S=[.arr [.agg [.int .i64 m,.int .i64 e]] 2 1]) (by simp[g1,g3,hm]) ?_;rintro E S ⟨g1,g3,rfl⟩;exact k E _ g3 g1 rfl
 .have ha:jY m=m:=by unfold jY;rw[aj hm]
  have k:=fun E S=>key E S _ ha
  simp only[ni,eZ]at k |-;refine dE (fun E S=>E.get 1=some (.ptr 0 0 0 1)/\S=[.arr [.agg [.int .i64 m,.int .i64 e]] 2 1]) (by simp[aC,iF]) ?_;rintro E S ⟨g1,rfl⟩;refine dE (fun E S=>E.get 1=some (.ptr 0 0 0 1)/\E.get 3=some (.int .i64 m)/\S=[.arr [.agg [.int .i64 m,.int .i64 e]] 2 1]) (by simp[g1,ae]) ?_;rintro E S ⟨g1,g3,rfl⟩;refine dE (fun E S=>E.get 1=some (.ptr 0 0 0 1)/\E.get 3=some (.int .i64 m)/\S=[.arr [.agg [.int .i64 m,.int .i64 e]] 2 1]) (by simp[g1,g3,hm]) ?_;rintro E S ⟨g1,g3,rfl⟩;exact k E _ g3 g1 rfl
def qk8(s:Bz)(hs:s.size<=aR):∀S,Fn prog 227 [.str s] S (.bool (sy s)):=by
 refine Pu.ib PN ?_;unfold aR at hs;have hp:sy s=(qZ s.data.toList && decide (s.size≤80)):=rfl;generalize hpr:sy s=pr at hp ⊢;simp only[PN,eZ];simp;refine bN (fun j e S'=>∃i:Nat,j=s.size - i∧i≤s.size∧qZ (s.data.toList.take i)=true∧
  e=[(3,.int .i64 i),(0,.str s)]) s.size _ ?_ ⟨0,by simp,by omega,rfl,rfl⟩ ?_
 .exact aN
 rintro j e S' ⟨i,rfl,hi,hq,rfl⟩;by_cases h:i<s.size
 .have hb:s.data.toList[i]?=some (s.data[i]'h):=by simp[h]
  generalize hx:s.data[i]'h=x at hb;have hi':pZ s i=some (.int .u8 x.toNat):=by rw[<-hx];exact Cc h
  have hlt:=x.toNat_lt
  have hno:qj x=false->pr=false:=fun hh=>by
   rw[hp,Eh];left
   cases ha:qZ s.data.toList with
   |false=>rfl
   |true=>
    unfold qZ at ha;rw[d6]at ha;rw[ha x (dc hb)]at hh;cases hh
  by_cases h1:(x.toNat:Int)<32
  .simp[h,hi',h1];refine dB rfl ?_ rfl;rw[hno (by unfold qj;simp;omega)];rfl
  by_cases h2:(126:Int)<x.toNat
  .simp[h,hi',h1,h2];refine dB rfl ?_ rfl;rw[hno (by unfold qj;simp;omega)];rfl
  by_cases h3:(x.toNat:Int)=34
  .simp[h,hi',h3];refine dB rfl ?_ rfl;rw[hno (by unfold qj;simp;omega)];rfl
  simp[h,hi',h1,h2,h3,bP i];refine⟨_,?_,_,?_,i+1,rfl,by omega,?_,rfl⟩
  .omega
  .exact aN
  .unfold qZ at *;rw[cY,Ax,hq,hb];simp[qj];omega
 .simp[h];have hsz:s.data.toList.length=s.size:=rfl;rw[iP oM]at hq;refine dB rfl ?_ rfl;rw[hp,hq];simp only[aK,V.bool.injEq,l8,decide_eq_decide];omega
def qlj(x:Ex):∀S,Fn prog 257 [x.v] S (.bool x.tgt):=by
 refine Pu.ib Ih ?_;by_cases h6:x.kind=6
 .simp[Ih,aC,ae,h6];exact aD (r:=by simp[aK,Ex.tgt,h6])
 .simp[Ih,aC,ae,h6];exact aD (r:=by simp[aK,Ex.tgt,h6])
def HD(n lo hi:Int):∀S,Fn prog 224 [.int .i64 n,.int .i64 lo,.int .i64 hi] S (.bool (decide (lo<=n)&&decide (n<=hi))):=by
 refine Pu.ib Ic ?_;by_cases h:lo<=n
 .simp[Ic,h];exact aD (r:=rfl)
 .simp[Ic,h];exact aD (r:=rfl)
def eM{α:Type}(l:List α)(q:α->Bool):Bool:=l.all q
def qk5(l:List Ex)(hl:l.length<=aR):∀S,Fn prog 222 [.sl false (l.map Ex.v)] S (.bool (eM l Ex.tgt&&decide (0<l.length))):=by
 refine Pu.ib PI ?_;unfold aR at hl;simp only[PI,eZ];simp;refine bN (fun j e S'=>∃i:Nat,j=l.length - i∧i≤l.length∧eM (l.take i) Ex.tgt=true∧
  e=[(3,.int .i64 i),(0,.sl false (l.map Ex.v))]) l.length _ ?_ ⟨0,by simp,by omega,rfl,rfl⟩ ?_
 .exact aN
 rintro j e S' ⟨i,rfl,hi,hq,rfl⟩;by_cases h:i<l.length
 .simp[h,mP];refine aG (qlj l[i] _) ?_
  cases hx:Ex.tgt l[i] with
  |false=>
   simp;refine dB rfl ?_ rfl
   have:eM l Ex.tgt=false:=by
    cases ha:eM l Ex.tgt with
    |false=>rfl
    |true=>
     unfold eM at ha;rw[d6]at ha;rw[ha _ (cI h)]at hx;cases hx
   rw[this];rfl
  |true=>
   simp[bP i];refine⟨_,?_,_,?_,i+1,rfl,by omega,?_,rfl⟩
   .omega
   .exact aN
   .unfold eM at *;rw[cY,bI h,Ax,hq];simp[hx]
 .simp[h];rw[iP oM]at hq;refine dB rfl ?_ rfl;rw[hq];simp[aK]
def ZC(l:List Bz)(hl:l.length<=aR):∀S,Fn prog 223 [.sl false (l.map V.str)] S (.bool (eM l ar)):=by
 refine Pu.ib PK ?_;unfold aR at hl;simp only[PK,eZ];simp;refine bN (fun j e S'=>∃i:Nat,j=l.length - i∧i≤l.length∧eM (l.take i) ar=true∧
  e=[(3,.int .i64 i),(0,.sl false (l.map V.str))]) l.length _ ?_ ⟨0,by simp,by omega,rfl,rfl⟩ ?_
 .exact aN
 rintro j e S' ⟨i,rfl,hi,hq,rfl⟩;by_cases h:i<l.length
 .simp[h,jb];refine aG (nX l[i] _) ?_
  cases hx:ar l[i] with
  |false=>
   simp;refine dB rfl ?_ rfl
   have:eM l ar=false:=by
    cases ha:eM l ar with
    |false=>rfl
    |true=>
     unfold eM at ha;rw[d6]at ha;rw[ha _ (cI h)]at hx;cases hx
   rw[this];rfl
  |true=>
   simp[bP i];refine⟨_,?_,_,?_,i+1,rfl,by omega,?_,rfl⟩
   .omega
   .exact aN
   .unfold eM at *;rw[cY,bI h,Ax,hq];simp[hx]
 .simp[h];rw[iP oM]at hq;refine dB rfl ?_ rfl;rw[hq];rfl
def qlk(f:Fo):∀S,Fn prog 258 [f.v] S (.bool (f.aQ ar)):=by
 refine Pu.ib i6 ?_;have hv:f.aQ ar=((if f.spec=0∨f.spec=3∨f.spec=4∨f.spec=5 then decide (f.type=0) && !f.value
   else if f.spec=1 then decide (1<=f.type/\f.type<=3)
   else if f.spec=2 then decide (0<=f.type/\f.type<=3)&&(!f.value||decide (f.type≠0))
   else if f.spec=6 then decide (0<=f.type/\f.type<=3)&&!f.value
   else false)&&ar f.name):=by unfold Fo.aQ;rw[Bool.and_comm]
 generalize f.aQ ar=r at hv |-;by_cases h0:f.spec=0
 .simp only[h0]at hv;by_cases ht:f.type=0
  case neg=>
   cases hval:f.value
   case false=>
    simp[i6,aC,ae,h0,ht,hval];exact aD (r:=by rw[hv];simp[aK,ht])
   simp[i6,aC,ae,h0,ht,hval];exact aD (r:=by rw[hv];simp[aK,ht])
  cases hval:f.value
  case true=>
   simp[i6,aC,ae,h0,ht,hval];exact aD (r:=by rw[hv];simp[aK,hval])
  simp[i6,aC,ae,h0,ht,hval];refine aG (nX f.name _) ?_;cases hn:ar f.name
  case false=>
   simp;exact aD (r:=by rw[hv];simp[aK,hn])
  simp;exact aD (r:=by rw[hv];simp[aK,hn,ht,hval])
 by_cases h3:f.spec=3
 .simp only[h3]at hv;by_cases ht:f.type=0
  case neg=>
   cases hval:f.value
   case false=>
    simp[i6,aC,ae,h3,ht,hval];exact aD (r:=by rw[hv];simp[aK,ht])
   simp[i6,aC,ae,h3,ht,hval];exact aD (r:=by rw[hv];simp[aK,ht])
  cases hval:f.value
  case true=>
   simp[i6,aC,ae,h3,ht,hval];exact aD (r:=by rw[hv];simp[aK,hval])
  simp[i6,aC,ae,h3,ht,hval];refine aG (nX f.name _) ?_;cases hn:ar f.name
  case false=>
   simp;exact aD (r:=by rw[hv];simp[aK,hn])
  simp;exact aD (r:=by rw[hv];simp[aK,hn,ht,hval])
 by_cases h4:f.spec=4
 .simp only[h4]at hv;by_cases ht:f.type=0
  case neg=>
   cases hval:f.value
   case false=>
    simp[i6,aC,ae,h4,ht,hval];exact aD (r:=by rw[hv];simp[aK,ht])
   simp[i6,aC,ae,h4,ht,hval];exact aD (r:=by rw[hv];simp[aK,ht])
  cases hval:f.value
  case true=>
   simp[i6,aC,ae,h4,ht,hval];exact aD (r:=by rw[hv];simp[aK,hval])
  simp[i6,aC,ae,h4,ht,hval];refine aG (nX f.name _) ?_;cases hn:ar f.name
  case false=>
   simp;exact aD (r:=by rw[hv];simp[aK,hn])
  simp;exact aD (r:=by rw[hv];simp[aK,hn,ht,hval])
 by_cases h5:f.spec=5
 .simp only[h5]at hv;by_cases ht:f.type=0
  case neg=>
   cases hval:f.value
   case false=>
    simp[i6,aC,ae,h5,ht,hval];exact aD (r:=by rw[hv];simp[aK,ht])
   simp[i6,aC,ae,h5,ht,hval];exact aD (r:=by rw[hv];simp[aK,ht])
  cases hval:f.value
  case true=>
   simp[i6,aC,ae,h5,ht,hval];exact aD (r:=by rw[hv];simp[aK,hval])
  simp[i6,aC,ae,h5,ht,hval];refine aG (nX f.name _) ?_;cases hn:ar f.name
  case false=>
   simp;exact aD (r:=by rw[hv];simp[aK,hn])
  simp;exact aD (r:=by rw[hv];simp[aK,hn,ht,hval])
 by_cases h1:f.spec=1
 .simp only[h1]at hv;simp[i6,aC,ae,h1];refine aG (HD _ _ _ _) ?_;by_cases ht:1<=f.type/\f.type<=3
  case neg=>
   rw[rh ht];cases hval:f.value
   case false=>
    simp[ae,hval];exact aD (r:=by rw[hv];simp[aK,ht])
   simp[ae,hval];exact aD (r:=by rw[hv];simp[aK,ht])
  rw[sB ht];cases hval:f.value
  case false=>
   simp[ae,hval];refine aG (nX f.name _) ?_;cases hn:ar f.name
   case false=>
    simp;exact aD (r:=by rw[hv];simp[aK,hn])
   simp;exact aD (r:=by rw[hv];simp[aK,hn,ht])
  simp[ae,hval,h1,show ¬f.type=0 by omega];refine aG (nX f.name _) ?_;cases hn:ar f.name
  case false=>
   simp;exact aD (r:=by rw[hv];simp[aK,hn])
  simp;exact aD (r:=by rw[hv];simp[aK,hn,ht])
 by_cases h2:f.spec=2
 .simp only[h2]at hv;simp[i6,aC,ae,h2];refine aG (HD _ _ _ _) ?_;by_cases ht:0<=f.type/\f.type<=3
  case neg=>
   rw[rh ht];cases hval:f.value
   case false=>
    simp[ae,hval];exact aD (r:=by rw[hv];simp[aK,ht])
   simp[ae,hval];exact aD (r:=by rw[hv];simp[aK,ht])
  rw[sB ht];cases hval:f.value
  case false=>
   simp[ae,hval];refine aG (nX f.name _) ?_;cases hn:ar f.name
   case false=>
    simp;exact aD (r:=by rw[hv];simp[aK,hn])
   simp;exact aD (r:=by rw[hv];simp[aK,hn,ht,hval])
  by_cases ht0:f.type=0
  case pos=>
   simp[ae,hval,h2,ht0];exact aD (r:=by rw[hv];simp[aK,hval,ht0])
  simp[ae,hval,h2,ht0];refine aG (nX f.name _) ?_;cases hn:ar f.name
  case false=>
   simp;exact aD (r:=by rw[hv];simp[aK,hn])
  simp;exact aD (r:=by rw[hv];simp[aK,hn,ht,hval,ht0])
 by_cases h6:f.spec=6
 .simp only[h6]at hv;simp[i6,aC,ae,h6];refine aG (HD _ _ _ _) ?_;by_cases ht:0<=f.type/\f.type<=3
  case neg=>
   rw[rh ht];cases hval:f.value
   case false=>
    simp[ae,hval];exact aD (r:=by rw[hv];simp[aK,ht])
   simp[ae,hval];exact aD (r:=by rw[hv];simp[aK,ht])
  rw[sB ht];cases hval:f.value
  case false=>
   simp[ae,hval];refine aG (nX f.name _) ?_;cases hn:ar f.name
   case false=>
    simp;exact aD (r:=by rw[hv];simp[aK,hn])
   simp;exact aD (r:=by rw[hv];simp[aK,hn,ht,hval])
  simp[ae,hval,h6];exact aD (r:=by rw[hv];simp[aK,hval])
 have hv':r=false:=by rw[hv];simp[h0,h1,h2,h3,h4,h5,h6]
 cases hval:f.value
 case false=>
  simp[i6,aC,ae,hval,h0,h1,h2,h3,h4,h5,h6];exact aD (r:=by rw[hv'];rfl)
 simp[i6,aC,ae,hval,h0,h1,h2,h3,h4,h5,h6];exact aD (r:=by rw[hv'];rfl)
def SL(l:List Fo)(i k:Nat):Prop:=∀(j:Nat) (x y:Fo),j<k->l[j]?=some x->l[i]?=some y->¬x.name=y.name
def qk6(l:List Fo)(hl:l.length<=aR):∀S,Fn prog 225 [.sl false (l.map Fo.v)] S (.bool (dH ar l []&&decide (l.length<=8))):=by
 refine Pu.ib PL ?_;unfold aR at hl;generalize hr:(dH ar l []&&decide (l.length<=8))=r;have hno:dH ar l []=false->r=false:=fun h=>by rw[<-hr,h];rfl
 simp only[PL,eZ];simp;refine du (fun e S=>dH ar l []=true/\e.get 0=some (.sl false (l.map Fo.v))) ?_ ?_;rotate_left
 .rintro e S ⟨h1,g0⟩;simp[g0];refine dB rfl ?_ rfl;rw[<-hr,h1];simp only[aK,V.bool.injEq,l8,decide_eq_decide];omega
 refine bN (fun j e S'=>∃i:Nat,j=l.length - i∧i≤l.length∧dH ar (l.take i) []=true∧
  e=[(3,.int .i64 i),(0,.sl false (l.map Fo.v))]) l.length _ ?_ ⟨0,by simp,by omega,rfl,rfl⟩ ?_
 .exact aN
 rintro j e S' ⟨i,rfl,hi,hq,rfl⟩;by_cases h:i<l.length
 case neg=>
  rw[iP oM]at hq;simp[h,hq]
 have hnext:dH ar (l.take (i+1)) []=(l[i].aQ ar&&!((l.take i).map Fo.name).any fun x=>decide (x=l[i].name)):=by
  rw[cY,bI h,gZ,BF,hq];simp[dH]
 have hall:dH ar l []=true->dH ar (l.take (i+1)) []=true:=fun hh=>by
  rw[<-lA (i+1) l,BF,bZ]at hh;exact hh.1
 simp[h];refine du (fun e S=>SL l i i/\e.get 3=some (.int .i64 i)/\e.get 0=some (.sl false (l.map Fo.v))) ?_ ?_
 ·refine bN (fun j e S'=>∃k:Nat,j=i - k∧k≤i∧SL l i k∧
   e=[(4,.int .i64 k),(3,.int .i64 i),(0,.sl false (l.map Fo.v))]) i _ ?_ ⟨0,by simp,by omega,fun j x y hj=>by omega,rfl⟩ ?_
  .exact aN
  rintro j e S' ⟨k,rfl,hk,hd,rfl⟩;by_cases g:k<i
  case neg=>
   have:k=i:=by omega
   subst this;simp[hd]
  have gl:k<l.length:=by omega
  by_cases hx:l[k].name=l[i].name
  .simp[g,gl,h,qO,hx,cU,dx,dG];refine dB rfl ?_ rfl;rw[hno]
   .rfl
   .cases hh:dH ar l [] with
    |false=>rfl
    |true=>
     have h2:=hall hh;rw[hnext,bZ,vx]at h2
     have:(((l.take i).map Fo.name).any fun x=>decide (x=l[i].name))=true:=by
      rw[rD];refine⟨l[k].name,cE.2 ⟨l[k],?_,rfl⟩,by simp[hx]⟩;exact rG.2 ⟨k,by rw[AC,ai g];simp⟩
     rw[this]at h2;cases h2.2
  .simp[g,gl,h,qO,hx,cU,dx,dG,bP k];refine⟨_,?_,_,?_,k+1,rfl,by omega,?_,rfl⟩
   .omega
   .exact aN
   .intro j x y hj h1 h2;by_cases hjk:j=k
    .subst hjk;rw[bI gl]at h1;cases h1;rw[bI h]at h2;cases h2;exact hx
    .exact hd j x y oM h1 h2
 rintro e U ⟨hd,g3,g0⟩
 have hany:(((l.take i).map Fo.name).any fun x=>decide (x=l[i].name))=false:=by
  cases hh:(((l.take i).map Fo.name).any fun x=>decide (x=l[i].name)) with
  |false=>rfl
  |true=>
   rw[rD]at hh;obtain⟨x,h1,h2⟩:=hh;obtain⟨f,h3,rfl⟩:=cE.1 h1;obtain⟨j,hj⟩:=rG.1 h3;rw[AC]at hj;split at hj
   .exact absurd (by simpa using h2) (hd j f l[i] (by assumption) hj (by simp[h]))
   .cases hj
 rw[hany]at hnext;simp[g3,g0,h,qO];refine aG (qlk l[i] _) ?_
 cases hv:l[i].aQ ar with
 |false=>
  rw[hv]at hnext;simp;refine dB rfl ?_ rfl;rw[hno]
  .rfl
  .cases hh:dH ar l [] with
   |false=>rfl
   |true=>rw[hall hh]at hnext;cases hnext
 |true=>
  rw[hv]at hnext;simp[g3,bP i];refine⟨_,?_,_,?_,i+1,rfl,by omega,hnext,rfl⟩
  .omega
  .repeat' first|exact af.fh _|refine af.dV (by simp[g0]) ?_
def qW(t:Bz):decide (t=⟨⟨[]⟩⟩)=e9 t:=by
 unfold e9;rw[decide_eq_decide];exact Hw
open Classical in
def qaK(x y:Ex):qA 4 4 Sm.z Sm.z De.z De.z El.z El.z x y↔mJ x y/\x.args.length=y.args.length:=by
 unfold qA gy jN kQ l9;simp;exact And.comm
def Ex.xZ:Sm.z.ok:=by simp[Sm.z,Sm.ok,qY,Ex.bR,De.bR,Sm.bR];decide
def De.xZ:De.z.ok:=by simp[De.z,De.ok,qY,Ex.bR,Sm.bR]
def pI(x:Ex)(E:af)(U:St):Prop:=∃(ok:Bool) (o n m e:Int) (t:Bz),x.aQ ar=(ok&&(decide (x.op=o)&&decide (x.n=n)&&(decide (x.man=m)&&decide (x.exp=e))&&decide (x.text=t)))/\E.get 1=some (.ptr 0 0 0 1)/\E.get 3=some (.ptr 1 0 0 1)/\E.get 5=some (.bool ok)/\
 U=[.arr [x.v] 7 1,.arr [.agg [.int .i64 x.kind,.int .i64 o,.int .i64 n,.int .i64 m,.int .i64 e,.str t,.sl true []]] 7 1]
def pI.mk{x:Ex}{E:af}{ok:Bool}{o n m e k:Int}{t:Bz}(hk:x.kind=k)(h1:E.get 1=some (.ptr 0 0 0 1))(h3:E.get 3=some (.ptr 1 0 0 1))(h5:E.get 5=some (.bool ok))(h:x.aQ ar=(ok&&(decide (x.op=o)&&decide (x.n=n)&&(decide (x.man=m)&&decide (x.exp=e))&&decide (x.text=t)))):
 pI x E [.arr [x.v] 7 1,.arr [.agg [.int .i64 k,.int .i64 o,.int .i64 n,.int .i64 m,.int .i64 e,.str t,.sl true []]] 7 1]:=⟨_,_,_,_,_,_,h,h1,h3,h5,hk ▸ rfl⟩
open Classical in
def qkT(x:Ex)(hx:x.ok):∀S,Fn prog 192 [x.v] S (.bool (x.aQ ar)):=by
 refine Pu.ib Pg ?_;simp only[Pg,eZ];refine qF ?_ fun _ _ h=>ym (pI x) h ?_
 .have hv:=Ex.iY ar x;simp only[<-qW]at hv;have hc:x.kind=1\/x.kind=2\/x.kind=3\/x.kind=4\/x.kind=5\/x.kind=6\/x.kind=7\/x.kind=8\/x.kind=9\/x.kind=10\/x.kind=11\/¬(1<=x.kind/\x.kind<=11):=by omega
  rcases hc with h|h|h|h|h|h|h|h|h|h|h| h
  case inr.inr.inr.inr.inr.inr.inr.inr.inr.inr.inr=>
   simp[aC,ae,aA,aE,cH,bj,bz,show ¬x.kind=1 by omega,show ¬x.kind=2 by omega,show ¬x.kind=3 by omega,show ¬x.kind=4 by omega,show ¬x.kind=5 by omega,show ¬x.kind=6 by omega,show ¬x.kind=7 by omega,show ¬x.kind=8 by omega,show ¬x.kind=9 by omega,show ¬x.kind=10 by omega,show ¬x.kind=11 by omega];exact pI.mk rfl rfl rfl rfl (by rw[hv];grind (splits:=16))
  case inl=>
   by_cases h1:0<=x.n<;>by_cases h2:x.n<=2147483647<;>simp[aC,ae,aA,aE,cH,bj,bz,h,h1,h2]<;>exact pI.mk h rfl rfl rfl (by rw[hv,dq];simp[h]<;>grind)
  case inr.inr.inr.inr.inr.inr.inr.inr.inl=>
   by_cases h1:x.op=1<;>by_cases h2:x.op=2<;>simp[aC,ae,aA,aE,cH,bj,bz,h,h1,h2]<;>exact pI.mk h rfl rfl rfl (by rw[hv,dq];simp[h]<;>grind)
  case inr.inr.inr.inr.inr.inr.inr.inr.inr.inl=>
   by_cases h1:3<=x.op<;>by_cases h2:x.op<=18<;>simp[aC,ae,aA,aE,cH,bj,bz,h,h1,h2]<;>exact pI.mk h rfl rfl rfl (by rw[hv,dq];simp[h]<;>grind)
  all_goals simp[aC,ae,aA,aE,cH,bj,bz,h]
  case inr.inr.inl|inr.inr.inr.inl|inr.inr.inr.inr.inr.inr.inr.inr.inr.inr.inl=>exact pI.mk h rfl rfl rfl (by rw[hv,dq];simp[h]<;>grind)
  case inr.inl=>
   refine aG (qk7 _ _ _) ?_;cases h1:pa x.man x.exp<;>by_cases h2:0<=x.man<;>simp[aC,ae,aA,aE,cH,bj,bz,h2]<;>exact pI.mk h rfl rfl rfl (by rw[hv,dq];simp[h]<;>grind)
  case inr.inr.inr.inr.inl=>
   refine aG (qk8 _ (Ex.VW hx) _) ?_;cases h1:sy x.text<;>simp[aC,ae,aA,aE,cH,bj,bz]<;>exact pI.mk h rfl rfl rfl (by rw[hv,dq];simp[h]<;>grind)
  case inr.inr.inr.inr.inr.inl|inr.inr.inr.inr.inr.inr.inl|inr.inr.inr.inr.inr.inr.inr.inl=>
   refine aG (nX _ _) ?_;cases h1:ar x.text<;>by_cases h2:(1:Int)<=x.args.length<;>simp[aC,ae,aA,aE,cH,bj,bz,h2]<;>exact pI.mk h rfl rfl rfl (by rw[hv,dq];simp[h]<;>grind)
 rintro E U ⟨ok,o,n,m,e,t,hr,g1,g3,g5,rfl⟩;have hy:(Ex.mk x.kind o n m e t x.args).v=.agg [.int .i64 x.kind,.int .i64 o,.int .i64 n,.int .i64 m,.int .i64 e,.str t,.sl false (x.args.map Ex.v)]:=Ex.dJ _;generalize jX:Ex.mk x.kind o n m e t x.args=y at hy
 cases ok with
 |false=>
  simp[g1,g3,g5,ae,aA,aE,cU,dx,dG];exact aD (r:=by rw[hr];rfl)
 |true=>
  simp[g1,g3,g5,ae,aA,aE,cH];refine iu (DJ x _) ?_;simp[g3,ae,cH];have h2:=DJ y [.arr [x.v] 7 1,.arr [.agg [.int .i64 x.kind,.int .i64 o,.int .i64 n,.int .i64 m,.int .i64 e,.str t,.sl false (x.args.map Ex.v)]] 7 1];rw[hy]at h2;refine iu h2 ?_;simp;refine iu (HC 4 4 Sm.z Sm.z De.z De.z El.z El.z x y Ex.xZ De.xZ _) ?_;simp[cU,dx,dG,g3,ae,cH];refine dB rfl ?_ rfl;rw[hr];simp only[aK,V.bool.injEq,l8];rw[dq,cR,qaK,<-jX];rw[bZ,bZ,bZ,bZ,cR,cR,cR,cR,cR];unfold mJ;constructor
  .rintro⟨⟨_,h2,h3,h4,h5⟩,_⟩;exact⟨⟨⟨h2,h3⟩,h4⟩,h5⟩
  .rintro⟨⟨⟨h2,h3⟩,h4⟩,h5⟩;exact⟨⟨rfl,h2,h3,h4,h5⟩,rfl⟩
open Classical in
def qaJ(s t:Sm):qA 1 1 s t De.z De.z El.z El.z Ex.z Ex.z↔gy s t/\kQ s t:=by
 unfold qA jN l9 mJ;simp
open Classical in
def qaI(c d:De):qA 2 2 Sm.z Sm.z c d El.z El.z Ex.z Ex.z↔c.aB=d.aB/\(c.ak.length=d.ak.length/\c.body.length=d.body.length)/\l9 c d:=by
 unfold qA gy jN kQ mJ;simp
theorem rL{α:Type}{l:List α}(q:α->Bool)(h:l.length=0):l.all q=true:=by
 rw[Iq h];rfl
def Sm.iY(nm:Bz→Bool)(s:Sm):s.aQ nm=(s.labels.all nm && s.targets.all Ex.tgt &&
 (if s.kind=1 then decide (s.targets.length=0) && decide (s.ak.length=0) && decide (s.elems.length=0) && decide (s.decls.length=0) && decide (s.body.length=0) && e9 s.text
  else if s.kind=2 then decide (1<=s.targets.length)&&decide (s.ak.length=1)&&decide (s.elems.length=0)&&decide (s.decls.length=0)&&decide (s.body.length=0)&&e9 s.text
  else if s.kind=3 then decide (s.targets.length=0)&&decide (s.ak.length=1)&&decide (s.elems.length=0)&&decide (s.decls.length=0)&&decide (s.body.length=0)&&e9 s.text
  else if s.kind=4 then decide (s.targets.length=0)&&decide (s.ak.length=1)&&decide (s.elems.length=0)&&decide (s.decls.length=0)&&decide (1<=s.body.length/\s.body.length<=2)&&e9 s.text&&Sm.jc s.body
  else if s.kind=5 then decide (s.targets.length=1)&&decide (s.ak.length=0)&&decide (1<=s.elems.length)&&decide (s.decls.length=0)&&decide (s.body.length=1)&&e9 s.text
  else if s.kind=6 then decide (s.targets.length=0)&&decide (s.ak.length<=8)&&decide (s.elems.length=0)&&decide (s.decls.length=0)&&decide (s.body.length=0)&&nm s.text
  else if s.kind=7 then decide (s.targets.length=0)&&decide (s.ak.length=0)&&decide (s.elems.length=0)&&decide (1<=s.decls.length)&&decide (1<=s.body.length)&&e9 s.text
  else if s.kind=8 then decide (s.targets.length=0)&&decide (s.ak.length=0)&&decide (s.elems.length=0)&&decide (s.decls.length=0)&&decide (1<=s.body.length)&&e9 s.text
  else false)):=by cases s;rfl
def nt(s:Sm)(E:af)(U:St):Prop:=∃(ok:Bool) (t:Bz) (b3 b4 b5 b6 b7:Bool) (g e:List Ex) (f:List El) (d:List De) (b:List Sm),s.aQ ar=(ok&&(s.labels.all ar&&(decide (s.targets.length=g.length)&&decide (s.ak.length=e.length)&&decide (s.elems.length=f.length)&&decide (s.decls.length=d.length)&&decide (s.body.length=b.length)&&decide (s.text=t))))/\E.get 1=some (.ptr 0 0 0 1)/\E.get 3=some (.ptr 1 0 0 1)/\E.get 6=some (.bool ok)/\
 U=[.arr [s.v] 8 1,.arr [.agg [.sl false (s.labels.map .str),.int .i64 s.kind,.str t,.sl b3 (g.map Ex.v),.sl b4 (e.map Ex.v),.sl b5 (f.map El.v),.sl b6 (d.map De.v),.sl b7 (b.map Sm.v)]] 8 1]
def nt.mk{s:Sm}{E:af}{ok:Bool}{k:Int}{t:Bz}{b3 b4 b5 b6 b7:Bool}(g e:List Ex)(f:List El)(d:List De)(b:List Sm)(hk:s.kind=k)(h1:E.get 1=some (.ptr 0 0 0 1))(h3:E.get 3=some (.ptr 1 0 0 1))(h6:E.get 6=some (.bool ok))(h:s.aQ ar=(ok&&(s.labels.all ar&&(decide (s.targets.length=g.length)&&decide (s.ak.length=e.length)&&decide (s.elems.length=f.length)&&decide (s.decls.length=d.length)&&decide (s.body.length=b.length)&&decide (s.text=t))))):
 nt s E [.arr [s.v] 8 1,.arr [.agg [.sl false (s.labels.map .str),.int .i64 k,.str t,.sl b3 (g.map Ex.v),.sl b4 (e.map Ex.v),.sl b5 (f.map El.v),.sl b6 (d.map De.v),.sl b7 (b.map Sm.v)]] 8 1]:=⟨_,_,_,_,_,_,_,g,e,f,d,b,h,h1,h3,h6,by rw[hk]⟩
open Classical in
def qkQ(s:Sm)(hs:s.ok):∀S,Fn prog 189 [s.v] S (.bool (s.aQ ar)):=by
 refine Pu.ib O8 ?_;have hO:=(Sm.ep s).1 hs;simp only[O8,eZ];refine qF ?_ fun _ _ h=>qF h fun _ _ h=>ym (nt s) h ?_
 .have hc:s.kind=1\/s.kind=2\/s.kind=3\/s.kind=4\/s.kind=5\/s.kind=6\/s.kind=7\/s.kind=8\/¬(1<=s.kind/\s.kind<=8):=by omega
  rcases hc with h|h|h|h|h|h|h|h| h
  case inr.inr.inr.inr.inr.inr.inr.inr=>
   simp[aC,ae,aA,aE,cH,bj,bz,show s.kind≠1 by omega,show s.kind≠2 by omega,show s.kind≠3 by omega,show s.kind≠4 by omega,show s.kind≠5 by omega,show s.kind≠6 by omega,show s.kind≠7 by omega,show s.kind≠8 by omega];exact nt.mk [] [] [] [] [] rfl rfl rfl rfl (by rw[Sm.iY];grind (splits:=16))
  case inr.inr.inr.inl=>
   by_cases h1:s.ak.length=1/\1<=s.body.length/\s.body.length<=2
   case neg=>
    by_cases h2:(s.ak.length:Int)=1<;>by_cases h3:(1:Int)<=s.body.length<;>by_cases h4:(s.body.length:Int)<=2
    all_goals first|omega|(simp[aC,ae,aA,aE,cH,bj,bz,h,h2,h3,h4];exact nt.mk [] s.ak [] [] s.body h rfl rfl rfl (by rw[Sm.iY,<-qW,dq];simp[h]<;>grind [rL,eM]))
   have h0:0<s.body.length:=h1.2.1;by_cases h5:s.body[0].kind=4<;>by_cases h6:s.body[0].kind=5<;>simp[aC,ae,aA,aE,cH,bj,bz,h,show(s.ak.length:Int)=1 by omega,show(1:Int)<=s.body.length by omega,show(s.body.length:Int)<=2 by omega,KL h0,h5,h6]<;>
    exact nt.mk [] s.ak [] [] s.body h rfl rfl rfl (by rw[Sm.iY,<-qW,dq,VM h0];simp[h]<;>grind [rL])
  case inr.inr.inr.inr.inr.inr.inl=>
   by_cases h1:(1:Int)<=s.decls.length<;>simp[aC,ae,aA,aE,cH,bj,bz,h,h1]<;>exact nt.mk [] [] [] s.decls s.body h rfl rfl rfl (by rw[Sm.iY,<-qW,dq];simp[h]<;>grind [rL,eM])
  all_goals simp[aC,ae,aA,aE,cH,bj,bz,h]
  case inl=>exact nt.mk [] [] [] [] [] h rfl rfl rfl (by rw[Sm.iY,<-qW,dq];simp[h]<;>grind [rL,eM])
  case inr.inr.inl=>exact nt.mk [] s.ak [] [] [] h rfl rfl rfl (by rw[Sm.iY,<-qW,dq];simp[h]<;>grind [rL,eM])
  case inr.inr.inr.inr.inr.inr.inr.inl=>exact nt.mk [] [] [] [] s.body h rfl rfl rfl (by rw[Sm.iY,<-qW,dq];simp[h]<;>grind [rL,eM])
  case inr.inr.inr.inr.inr.inl=>
   refine aG (nX _ _) ?_;cases h1:ar s.text<;>simp[aC,ae,aA,aE,cH,bj,bz]<;>exact nt.mk [] s.ak [] [] [] h rfl rfl rfl (by rw[Sm.iY,<-qW,dq];simp[h]<;>grind [rL,eM])
  all_goals
   refine aG (qk5 _ hO.targets.1 _) ?_
   cases h1:eM s.targets Ex.tgt&&decide (0<s.targets.length)
  case inr.inl.false|inr.inl.true=>simp[aC,ae,aA,aE,cH,bj,bz];exact nt.mk s.targets s.ak [] [] [] h rfl rfl rfl (by rw[Sm.iY,<-qW,dq];simp[h]<;>grind [rL,eM])
  all_goals
   by_cases h2:(s.targets.length:Int)=1<;>by_cases h3:(1:Int)<=s.elems.length<;>simp[aC,ae,aA,aE,cH,bj,bz,h2,h3]<;>exact nt.mk s.targets [] s.elems [] s.body h rfl rfl rfl (by rw[Sm.iY,<-qW,dq];simp[h]<;>grind [rL,eM])
 rintro E U ⟨ok,t,b3,b4,b5,b6,b7,g,e,f,d,b,hr,g1,g3,g6,rfl⟩
 have hy:V.cr [V.agg [.sl false (s.labels.map .str),.int .i64 s.kind,.str t,.sl b3 (g.map Ex.v),.sl b4 (e.map Ex.v),.sl b5 (f.map El.v),.sl b6 (d.map De.v),.sl b7 (b.map Sm.v)]]=[(Sm.mk s.labels s.kind t g e f d b).v]:=by
  simp only[V.cr,V.weak,jq,m7,oc,i4,jL];rw[Sm.dJ];rfl
 have TY:=fun S=>au.vn (args:=[V.agg [.sl false (s.labels.map .str),.int .i64 s.kind,.str t,.sl b3 (g.map Ex.v),.sl b4 (e.map Ex.v),.sl b5 (f.map El.v),.sl b6 (d.map De.v),.sl b7 (b.map Sm.v)]]) (by rw[hy];exact DG (Sm.mk s.labels s.kind t g e f d b) S)
 generalize jX:Sm.mk s.labels s.kind t g e f d b=y at hy TY
 cases ok with
 |false=>
  simp[g1,g3,g6,ae,cU,dx,dG];exact aD (r:=by rw[hr];rfl)
 |true=>
  simp[g1,g3,g6,ae];refine iu (ZC s.labels hO.labels.1 _) ?_
  cases hn:eM s.labels ar with
  |false=>
   unfold eM at hn;simp[g1,g3,g6,ae,cU,dx,dG];exact aD (r:=by rw[hr,hn];rfl)
  |true=>
   unfold eM at hn;simp[g1,ae];refine iu (DG s _) ?_;simp[g3,ae,cH];refine iu (TY _) ?_;simp;refine iu (HC 1 1 s y De.z De.z El.z El.z Ex.z Ex.z hs De.xZ _) ?_;simp[cU,dx,dG,g3,ae,cH];refine dB rfl ?_ rfl;rw[hr,hn];simp only[aK,V.bool.injEq,l8];rw[dq,cR,qaJ,<-jX];rw[bZ,bZ,bZ,bZ,bZ,cR,cR,cR,cR,cR,cR];unfold gy kQ;constructor
   .rintro⟨⟨h1,h2,h3,h4,h5⟩,_,h6,_⟩;exact⟨⟨⟨⟨⟨h1,h2⟩,h3⟩,h4⟩,h5⟩,h6⟩
   .rintro⟨⟨⟨⟨⟨h1,h2⟩,h3⟩,h4⟩,h5⟩,h6⟩;exact⟨⟨h1,h2,h3,h4,h5⟩,rfl,h6,rfl⟩
def qkS(e:El):∀S,Fn prog 191 [e.v] S (.bool e.aQ):=by
 refine Pu.ib vA ?_;unfold El.aQ;by_cases h1:e.kind=1
 .by_cases hl:(e.ak.length:Int)=1
  .simp[vA,aC,ae,h1,hl];exact aD (r:=by simp[aK];omega)
  .simp[vA,aC,ae,h1,hl];exact aD (r:=by simp[aK];omega)
 by_cases h2:e.kind=2
 .by_cases hl:(e.ak.length:Int)=3
  .simp[vA,aC,ae,h2,hl];exact aD (r:=by simp[aK];omega)
  .simp[vA,aC,ae,h2,hl];exact aD (r:=by simp[aK];omega)
 by_cases h3:e.kind=3
 .simp[vA,aC,ae,h3];exact aD (r:=by simp[aK];omega)
 simp[vA,aC,ae,h1,h2,h3];exact aD (r:=rfl)
def De.iY(nm:Bz→Bool)(d:De):d.aQ nm=(d.names.all nm &&
 (if d.kind=1 then decide (1≤d.names.length) && decide (d.ak.length=0) && decide (d.aB.length=0) && decide (d.body.length=0) && decide (1≤d.type∧d.type≤3)
  else if d.kind=2 then decide (1<=d.names.length)&&decide (2<=d.ak.length/\d.ak.length<=8)&&decide (d.ak.length%2=0)&&decide (d.aB.length=0)&&decide (d.body.length=0)&&decide (1<=d.type/\d.type<=3)
  else if d.kind=3 then decide (d.names.length=1)&&decide (1<=d.ak.length)&&decide (d.aB.length=0)&&decide (d.body.length=0)&&!d.own&&decide (d.type=0)
  else if d.kind=4 then decide (d.names.length=1)&&decide (d.ak.length=0)&&decide (d.body.length=1)&&decide (d.aB.length<=8)&&!d.own&&decide (0<=d.type/\d.type<=3)&&dH nm d.aB []
  else false)):=by cases d;rfl
open Classical in
def oC(c:De)(E:af)(U:St):Prop:=∃(ok o:Bool) (t:Int) (b4 b5 b6:Bool) (e:List Ex) (f:List Fo) (b:List Sm),c.aQ ar=(ok&&(c.names.all ar&&(decide (c.aB=f)&&decide (c.ak.length=e.length)&&decide (c.body.length=b.length)&&decide (c.own=o)&&decide (c.type=t))))/\E.get 1=some (.ptr 0 0 0 1)/\E.get 3=some (.ptr 1 0 0 1)/\E.get 5=some (.bool ok)/\
 U=[.arr [c.v] 7 1,.arr [.agg [.int .i64 c.kind,.bool o,.int .i64 t,.sl false (c.names.map .str),.sl b4 (e.map Ex.v),.sl b5 (f.map Fo.v),.sl b6 (b.map Sm.v)]] 7 1]
open Classical in
def oC.mk{c:De}{E:af}{ok o:Bool}{t k:Int}{b4 b5 b6:Bool}(e:List Ex)(f:List Fo)(b:List Sm)(hk:c.kind=k)(h1:E.get 1=some (.ptr 0 0 0 1))(h3:E.get 3=some (.ptr 1 0 0 1))(h5:E.get 5=some (.bool ok))(h:c.aQ ar=(ok&&(c.names.all ar&&(decide (c.aB=f)&&decide (c.ak.length=e.length)&&decide (c.body.length=b.length)&&decide (c.own=o)&&decide (c.type=t))))):
 oC c E [.arr [c.v] 7 1,.arr [.agg [.int .i64 k,.bool o,.int .i64 t,.sl false (c.names.map .str),.sl b4 (e.map Ex.v),.sl b5 (f.map Fo.v),.sl b6 (b.map Sm.v)]] 7 1]:=⟨_,_,_,_,_,_,e,f,b,h,h1,h3,h5,by rw[hk]⟩
open Classical in
def qkR(c:De)(hs:c.ok):∀S,Fn prog 190 [c.v] S (.bool (c.aQ ar)):=by
 refine Pu.ib O9 ?_;have hO:=(De.ep c).1 hs;simp only[O9,eZ];refine qF ?_ fun _ _ h=>ym (oC c) h ?_
 .have hc:c.kind=1\/c.kind=2\/c.kind=3\/c.kind=4\/¬(1<=c.kind/\c.kind<=4):=by omega
  rcases hc with h|h|h|h| h
  case inr.inr.inr.inr=>
   simp[aC,ae,aA,aE,cH,bj,bz,show c.kind≠1 by omega,show c.kind≠2 by omega,show c.kind≠3 by omega,show c.kind≠4 by omega];exact oC.mk [] [] [] rfl rfl rfl rfl (by rw[De.iY];grind)
  case inr.inr.inl=>
   by_cases h1:(c.names.length:Int)=1<;>simp[aC,ae,aA,aE,cH,bj,bz,h,h1]<;>exact oC.mk c.ak [] [] h rfl rfl rfl (by rw[De.iY,dq];simp[h]<;>grind [dH])
  all_goals
   simp[aC,ae,aA,aE,cH,bj,bz,h]
   refine aG (HD _ _ _ _) ?_
  case inl=>
   by_cases h1:1<=c.type/\c.type<=3
   case neg=>rw[rh h1];simp[aC,ae,aA,aE,cH,bj,bz];exact oC.mk [] [] [] h rfl rfl rfl (by rw[De.iY,dq];simp[h]<;>grind [dH])
   rw[sB h1];simp[aC,ae,aA,aE,cH,bj,bz];exact oC.mk [] [] [] h rfl rfl rfl (by rw[De.iY,dq];simp[h]<;>grind [dH])
  case inr.inl=>
   have hm:=LA c.ak.length;by_cases h1:1<=c.type/\c.type<=3
   case neg=>rw[rh h1];simp[aC,ae,aA,aE,cH,bj,bz];exact oC.mk c.ak [] [] h rfl rfl rfl (by rw[De.iY,dq];simp[h]<;>grind [dH])
   rw[sB h1];by_cases h2:(1:Int)<=c.names.length<;>by_cases h3:(2:Int)<=c.ak.length<;>by_cases h4:(c.ak.length:Int)%2=0<;>simp[aC,ae,aA,aE,cH,bj,bz,h2,h3,hm,h4]<;>exact oC.mk c.ak [] [] h rfl rfl rfl (by rw[De.iY,dq];simp[h]<;>grind [dH])
  by_cases h1:0<=c.type/\c.type<=3
  case neg=>rw[rh h1];simp[aC,ae,aA,aE,cH,bj,bz];exact oC.mk [] c.aB c.body h rfl rfl rfl (by rw[De.iY,dq];simp[h]<;>grind [dH])
  rw[sB h1];by_cases h2:(c.names.length:Int)=1
  case neg=>simp[aC,ae,aA,aE,cH,bj,bz,h2];exact oC.mk [] c.aB c.body h rfl rfl rfl (by rw[De.iY,dq];simp[h]<;>grind [dH])
  simp[aC,ae,aA,aE,cH,bj,bz,h2];refine aG (qk6 c.aB hO.aB.1 _) ?_;cases h3:dH ar c.aB []&&decide (c.aB.length<=8)<;>simp[aC,ae,aA,aE,cH,bj,bz]<;>exact oC.mk [] c.aB c.body h rfl rfl rfl (by rw[De.iY,dq];simp[h]<;>grind [dH])
 rintro E U ⟨ok,o,t,b4,b5,b6,e,f,b,hr,g1,g3,g5,rfl⟩
 have hy:V.cr [V.agg [.int .i64 c.kind,.bool o,.int .i64 t,.sl false (c.names.map .str),.sl b4 (e.map Ex.v),.sl b5 (f.map Fo.v),.sl b6 (b.map Sm.v)]]=[(De.mk c.kind o t c.names e f b).v]:=by
  simp only[V.cr,V.weak,jq,m8,i4,jL];rw[De.dJ];rfl
 have T8:=fun S=>au.vn (args:=[V.agg [.int .i64 c.kind,.bool o,.int .i64 t,.sl false (c.names.map .str),.sl b4 (e.map Ex.v),.sl b5 (f.map Fo.v),.sl b6 (b.map Sm.v)]]) (by rw[hy];exact Zm (De.mk c.kind o t c.names e f b) S)
 generalize jX:De.mk c.kind o t c.names e f b=y at hy T8
 cases ok with
 |false=>
  simp[g1,g3,g5,ae,cU,dx,dG];exact aD (r:=by rw[hr];rfl)
 |true=>
  simp[g1,g3,g5,ae];refine iu (ZC c.names hO.names.1 _) ?_
  cases hn:eM c.names ar with
  |false=>
   unfold eM at hn;simp[g1,g3,g5,ae,cU,dx,dG];exact aD (r:=by rw[hr,hn];rfl)
  |true=>
   unfold eM at hn;simp[g1,ae];refine iu (Zm c _) ?_;simp[g3,ae,cH];refine iu (T8 _) ?_;simp;refine iu (HC 2 2 Sm.z Sm.z c y El.z El.z Ex.z Ex.z Ex.xZ hs _) ?_;simp[cU,dx,dG,g3,ae,cH];refine dB rfl ?_ rfl;rw[hr,hn];simp only[aK,V.bool.injEq,l8];rw[dq,cR,qaI,<-jX];rw[bZ,bZ,bZ,bZ,cR,cR,cR,cR,cR];unfold l9;constructor
   .rintro⟨h1,⟨h2,h3⟩,_,h4,h5,_⟩;exact⟨⟨⟨⟨h1,h2⟩,h3⟩,h4⟩,h5⟩
   .rintro⟨⟨⟨⟨h1,h2⟩,h3⟩,h4⟩,h5⟩;exact⟨h1,⟨h2,h3⟩,rfl,h4,h5,rfl⟩
def qkB:∀(k:Nat) (p:Pa),p.wt<=k->p.ok->p.size<=2000->∀S,Fn prog 160 [p.v] S (.bool (p.valid ar)):=by
 intro k
 induction k with
 |zero=>intro p h;exfalso;cases p with
  |st s=>cases s;simp[Pa.wt]at h
  |de s=>cases s;simp[Pa.wt]at h
  |el s=>cases s;simp[Pa.wt]at h
  |ex s=>cases s;simp[Pa.wt]at h
 |succ k ih=>
  intro p hw hp hsz;refine Pu.ib vz ?_;have hs:=p.size_eq;have hlen:=jm p.kids;have hown:=p.uG;have qN:=Pa.valid_eq ar p;generalize hr:p.valid ar=r at qN |-;have rest:∀(E:af) (S:St),E.get 3=some (.bool (p.aQ ar))->E.get 1=some (.ptr 0 0 0 1)->S[0]?=some (.arr [p.v] 25 1)->
    WP prog (match vz.c.body with|.seq _ (.seq _ (.seq _ b))=>b|x=>x) (eH [.t 2] 0 fun v U=>v=.bool r/\U=[]) E S:=by
   intro E S g3 g1 h0;simp[vz,g1,ae,h0];refine aG (DL p hp oM _) ?_;simp;refine du (fun e U=>e.get 3=some (.bool r)) ?_ ?_;rotate_left
   .rintro e U g;simp[g];exact dB (vs:=[.bool r]) sM rfl rfl
   refine bN (fun j e S'=>∃i:Nat,j=p.kids.length - i∧i≤p.kids.length∧
    e=[(5,.int .i64 i),(4,.sl false (p.kids.map Pa.v)),(3,.bool (p.aQ ar&&eM (p.kids.take i) (Pa.valid ar)))]) p.kids.length _ ?_ ⟨0,by simp,by omega,rfl⟩ ?_
   .have hz:eM [] (Pa.valid ar)=true:=rfl
    repeat' first|exact af.fh _|refine af.dV (by simp[g3,hz]) ?_
   rintro j e S' ⟨i,rfl,hi,rfl⟩
   have hrest:p.aQ ar=true->eM (p.kids.take i) (Pa.valid ar)=false->r=false:=fun _ h=>by
    rw[qN];unfold eM at h
    cases ha:p.kids.all (Pa.valid ar) with
    |false=>simp
    |true=>
     rw[d6]at ha;have:(p.kids.take i).all (Pa.valid ar)=true:=d6.2 fun q hq=>ha q (yj hq)
     rw[this]at h;cases h
   by_cases h:i<p.kids.length
   .cases ho:p.aQ ar with
    |false=>
     simp[h];rw[qN,ho];rfl
    |true=>
     cases hq:eM (p.kids.take i) (Pa.valid ar) with
     |false=>
      simp[h];rw[hrest ho hq]
     |true=>
      have hk:=Pa.qR (cI h);have q2:=jH (l:=p.kids) (i:=i) (q:=p.kids[i]) (by simp[h]);simp[h,Gl];refine aG (ih p.kids[i] oM (Pa.wV hp (cI h)) oM _) ?_;simp[bP i];refine⟨_,?_,_,?_,i+1,rfl,by omega,rfl⟩
      .omega
      .have ha:eM (p.kids.take (i+1)) (Pa.valid ar)=p.kids[i].valid ar:=by
        unfold eM at *;rw[cY,bI h,Ax,hq];simp
       exact af.dV (k:=5) (v:=.int .i64 (i+1:Nat)) sM (af.dV (k:=4) (v:=.sl false (p.kids.map Pa.v)) sM (af.dV (k:=3) (v:=.bool (true&&eM (p.kids.take (i+1)) (Pa.valid ar))) (by simp[ha]) (af.fh _)))
   .have:i=p.kids.length:=by omega
    subst this;simp;rw[qN];unfold eM;rfl
  cases p with
  |st s=>
   have hown':(Pa.st s).aQ ar=s.aQ ar:=rfl;simp only[vz,eZ]at rest |-;refine dE (fun E U=>E.get 1=some (.ptr 0 0 0 1)/\U=[.arr [(Pa.st s).v] 25 1]) (by simp[aC,iF]) ?_;rintro E U ⟨g1,rfl⟩;refine dE (fun E U=>E.get 1=some (.ptr 0 0 0 1)/\E.get 3=some (.bool false)/\U=[.arr [(Pa.st s).v] 25 1]) (by simp[g1]) ?_;rintro E U ⟨g1,g3,rfl⟩;refine dE (fun E U=>E.get 1=some (.ptr 0 0 0 1)/\E.get 3=some (.bool ((Pa.st s).aQ ar))/\U=[.arr [(Pa.st s).v] 25 1]) ?_ ?_
   .simp only[Pa.v,Pa.kind,Pa.toS,Pa.ij,Pa.je,Pa.jf];simp[g1,ae];refine aG (qkQ s hp _) ?_;simp[g1,hown']
   rintro E U ⟨g1,g3,rfl⟩;exact rest E _ g3 g1 rfl
  |de d=>
   have hown':(Pa.de d).aQ ar=d.aQ ar:=rfl;simp only[vz,eZ]at rest |-;refine dE (fun E U=>E.get 1=some (.ptr 0 0 0 1)/\U=[.arr [(Pa.de d).v] 25 1]) (by simp[aC,iF]) ?_;rintro E U ⟨g1,rfl⟩;refine dE (fun E U=>E.get 1=some (.ptr 0 0 0 1)/\E.get 3=some (.bool false)/\U=[.arr [(Pa.de d).v] 25 1]) (by simp[g1]) ?_;rintro E U ⟨g1,g3,rfl⟩;refine dE (fun E U=>E.get 1=some (.ptr 0 0 0 1)/\E.get 3=some (.bool ((Pa.de d).aQ ar))/\U=[.arr [(Pa.de d).v] 25 1]) ?_ ?_
   .simp only[Pa.v,Pa.kind,Pa.toS,Pa.ij,Pa.je,Pa.jf];simp[g1,ae];refine aG (qkR d hp _) ?_;simp[g1,hown']
   rintro E U ⟨g1,g3,rfl⟩;exact rest E _ g3 g1 rfl
  |el e=>
   have hown':(Pa.el e).aQ ar=e.aQ:=rfl;simp only[vz,eZ]at rest |-;refine dE (fun E U=>E.get 1=some (.ptr 0 0 0 1)/\U=[.arr [(Pa.el e).v] 25 1]) (by simp[aC,iF]) ?_;rintro E U ⟨g1,rfl⟩;refine dE (fun E U=>E.get 1=some (.ptr 0 0 0 1)/\E.get 3=some (.bool false)/\U=[.arr [(Pa.el e).v] 25 1]) (by simp[g1]) ?_;rintro E U ⟨g1,g3,rfl⟩;refine dE (fun E U=>E.get 1=some (.ptr 0 0 0 1)/\E.get 3=some (.bool ((Pa.el e).aQ ar))/\U=[.arr [(Pa.el e).v] 25 1]) ?_ ?_
   .simp only[Pa.v,Pa.kind,Pa.toS,Pa.ij,Pa.je,Pa.jf];simp[g1,ae];refine aG (qkS e _) ?_;simp[g1,hown']
   rintro E U ⟨g1,g3,rfl⟩;exact rest E _ g3 g1 rfl
  |ex x=>
   have hown':(Pa.ex x).aQ ar=x.aQ ar:=rfl;simp only[vz,eZ]at rest |-;refine dE (fun E U=>E.get 1=some (.ptr 0 0 0 1)/\U=[.arr [(Pa.ex x).v] 25 1]) (by simp[aC,iF]) ?_;rintro E U ⟨g1,rfl⟩;refine dE (fun E U=>E.get 1=some (.ptr 0 0 0 1)/\E.get 3=some (.bool false)/\U=[.arr [(Pa.ex x).v] 25 1]) (by simp[g1]) ?_;rintro E U ⟨g1,g3,rfl⟩;refine dE (fun E U=>E.get 1=some (.ptr 0 0 0 1)/\E.get 3=some (.bool ((Pa.ex x).aQ ar))/\U=[.arr [(Pa.ex x).v] 25 1]) ?_ ?_
   .simp only[Pa.v,Pa.kind,Pa.toS,Pa.ij,Pa.je,Pa.jf];simp[g1,ae];refine aG (qkT x hp _) ?_;simp[g1,hown']
   rintro E U ⟨g1,g3,rfl⟩;exact rest E _ g3 g1 rfl
def Zj(p:Pa)(hp:p.ok):∀S,Fn prog 112 [p.v] S (.int .i64 (p.err ar)):=by
 refine Pu.ib Ol ?_;simp[Ol,aC,ae];refine aG (M1 p hp _) ?_;unfold Pa.err;by_cases hf:p.fits
 .simp[hf,ae];refine aG (qkB _ p bL hp hf.1 _) ?_
  cases hv:p.valid ar with
  |true=>
   simp;exact aD (r:=rfl)
  |false=>
   simp;exact aD (r:=rfl)
 .simp[hf,ae];exact aD (r:=rfl)
def qlA(s:Sm)(hs:s.ok):∀S,Fn prog 63 [s.v] S (.int .i64 ((Pa.st s).err ar)):=by
 refine Pu.ib Qh ?_;simp[Qh,aC,ae];refine aG (DG s _) ?_;simp;refine aG (Zj (.st s) hs _) ?_;simp;exact aD (r:=rfl)
def qlJ(s:Ex)(hs:s.ok):∀S,Fn prog 91 [s.v] S (.int .i64 ((Pa.ex s).err ar)):=by
 refine Pu.ib Qy ?_;simp[Qy,aC,ae];refine aG (DJ s _) ?_;simp;refine aG (Zj (.ex s) hs _) ?_;simp;exact aD (r:=rfl)
def M7(s:Sm)(hs:s.ok):∀S,Fn prog 20 [s.v] S (.int .i64 ((Pa.st s).err ar)):=by
 refine Pu.ib Pl ?_;simp[Pl,aC,ae];refine aG (qlA s hs _) ?_;simp;exact aD (r:=rfl)
def M8(s:Ex)(hs:s.ok):∀S,Fn prog 40 [s.v] S (.int .i64 ((Pa.ex s).err ar)):=by
 refine Pu.ib P4 ?_;simp[P4,aC,ae];refine aG (qlJ s hs _) ?_;simp;exact aD (r:=rfl)
def Pa.Bo(a b:Pa):Prop:=qA a.kind b.kind a.toS b.toS a.ij b.ij a.je b.je a.jf b.jf
def Pa.qda(a:Pa):a.Bo a:=⟨⟨rfl,rfl⟩,⟨⟨rfl,rfl,rfl,rfl,rfl⟩,rfl,rfl,rfl,rfl⟩,⟨rfl,rfl,rfl⟩,⟨rfl,rfl,rfl,rfl⟩,rfl,rfl,rfl,rfl,⟨rfl,rfl⟩,rfl⟩
def Pa.qc9{a b:Pa}(h:a.Bo b):a.kids.length=b.kids.length:=by
 obtain⟨⟨hk,_⟩,⟨⟨h1,h2,h3,h4,h5⟩,h6,h7,h8,h9⟩,_⟩:=h;rw[zd,zd];cases a<;>cases b<;>simp only[Pa.kind,Pa.toS,Pa.ij,Pa.je,Pa.jf]at *<;>omega
def qT{α β:Type}{f:α->β}(hf:∀x y,f x=f y->x=y):∀{l m:List α},l.map f=m.map f->l=m
 |[],[],_=>rfl
 |[],_::_,h=>by simp at h
 |_::_,[],h=>by simp at h
 |x::l,y::m,h=>by
  simp only[b9,List.cons.injEq]at h;rw[hf x y h.1,qT hf h.2]
def Pa.eq_of{a b:Pa}(h:a.Bo b)(hk:a.kids=b.kids):a=b:=by
 obtain⟨⟨hk0,hf⟩,⟨⟨h1,h2,h3,h4,h5⟩,h6,h7,h8,h9⟩,⟨s1,s2,s3⟩,⟨d1,d2,d3,d4⟩,e1,x1,x2,x3,⟨x4,x5⟩,x6⟩:=h;have iX:∀x y,Pa.ex x=Pa.ex y->x=y:=fun x y h=>by cases h;rfl
 have iS:∀x y,Pa.st x=Pa.st y->x=y:=fun x y h=>by cases h;rfl
 have iE:∀x y,Pa.el x=Pa.el y->x=y:=fun x y h=>by cases h;rfl
 have iD:∀x y,Pa.de x=Pa.de y->x=y:=fun x y h=>by cases h;rfl
 cases a with
 |st s=>
  cases b with
  |st t=>
   simp only[Pa.kids,Pa.toS]at *;obtain⟨k1,hk⟩:=AA hk (by simp[h1]);obtain⟨k2,hk⟩:=AA hk (by simp[h2]);obtain⟨k3,hk⟩:=AA hk (by simp[h3]);obtain⟨k4,k5⟩:=AA hk (by simp[h4]);have k1:=qT iX k1;have k2:=qT iX k2;have k3:=qT iE k3;have k4:=qT iD k4;have k5:=qT iS k5;cases s;cases t;simp only[Sm.labels,Sm.kind,Sm.text,Sm.targets,Sm.ak,Sm.elems,Sm.decls,Sm.body]at *;subst k1 k2 k3 k4 k5 s1 s2 s3;rfl
  |_=>simp[Pa.kind]at hk0
 |de s=>
  cases b with
  |de t=>
   simp only[Pa.kids,Pa.ij]at *;obtain⟨k1,k2⟩:=AA hk (by simp[h6]);have k1:=qT iX k1;have k2:=qT iS k2;cases s;cases t;simp only[De.names,De.kind,De.own,De.type,De.ak,De.aB,De.body]at *;subst k1 k2 d1 d2 d3 d4 hf;rfl
  |_=>simp[Pa.kind]at hk0
 |el s=>
  cases b with
  |el t=>
   simp only[Pa.kids,Pa.je]at *;have k1:=qT iX hk;cases s;cases t;simp only at *;subst k1 e1;rfl
  |_=>simp[Pa.kind]at hk0
 |ex s=>
  cases b with
  |ex t=>
   simp only[Pa.kids,Pa.jf]at *;have k1:=qT iX hk;cases s;cases t;simp only[Ex.kind,Ex.op,Ex.n,Ex.man,Ex.exp,Ex.text,Ex.args]at *;subst k1 x1 x2 x3 x4 x5 x6;rfl
  |_=>simp[Pa.kind]at hk0
def Pa.qmh{p:Pa}(h:p.ok):p.toS.ok:=by cases p<;>first|exact h|exact Ex.xZ
def Pa.qmg{p:Pa}(h:p.ok):p.ij.ok:=by cases p<;>first|exact h|exact De.xZ
def qfY{l m:List Pa}(hl:l.length=m.length)(h:∀j,j<l.length->l[j]?=m[j]?):l=m:=by
 apply ou;intro i;by_cases hi:i<l.length
 .exact h i hi
 .rw[mb oM,mb oM]
def qfX(l m:List Pa)(i:Nat):Prop:=∀j,j<i->l[j]?=m[j]?
open Classical in
def qkC:∀(k:Nat) (a b:Pa),a.wt<=k->a.ok->b.ok->a.size<=2000->b.size<=2000->∀S,Fn prog 164 [a.v,b.v] S (.bool (decide (a=b))):=by
 intro k
 induction k with
 |zero=>intro p q h;exfalso;cases p with
  |st s=>cases s;simp[Pa.wt]at h
  |de s=>cases s;simp[Pa.wt]at h
  |el s=>cases s;simp[Pa.wt]at h
  |ex s=>cases s;simp[Pa.wt]at h
 |succ k ih=>
  intro a b hw ha hb hsa hsb;refine Pu.ib OT ?_;have la:=a.size_eq;have lb:=b.size_eq;have la':=jm a.kids;have lb':=jm b.kids;have oa:=a.uG;have ob:=b.uG;generalize hr:decide (a=b)=r;simp[OT,aC,ae];refine aG (HC a.kind b.kind a.toS b.toS a.ij b.ij a.je b.je a.jf b.jf (Pa.qmh ha) (Pa.qmg ha) _) ?_;change Ac prog _ _ _ _ (.bool (decide (a.Bo b))) _;by_cases he:a.Bo b
  case neg=>
   rw[dy he];simp;refine dB rfl ?_ rfl;rw[<-hr,dy (fun h=>he (by rw[h];exact Pa.qda b))];rfl
  rw[jC he];have hkl:=Pa.qc9 he;simp[ae];refine aG (DL a ha oM _) ?_;simp[ae];refine aG (DL b hb oM _) ?_;simp;refine bN (fun j e S'=>∃i:Nat,j=a.kids.length - i∧i≤a.kids.length∧qfX a.kids b.kids i∧
   e=[(7,.int .i64 i),(5,.sl false (a.kids.map Pa.v)),(6,.sl false (b.kids.map Pa.v))]) a.kids.length _ ?_ ⟨0,by simp,by omega,fun j hj=>by omega,rfl⟩ ?_
  .exact aN
  rintro j e S' ⟨i,rfl,hi,hq,rfl⟩;by_cases h:i<a.kids.length
  .have h':i<b.kids.length:=by omega
   have hk:=Pa.qR (cI h);have q1:=jH (l:=a.kids) (i:=i) (q:=a.kids[i]) (by simp[h]);have q2:=jH (l:=b.kids) (i:=i) (q:=b.kids[i]) (by simp[h']);simp[h,h',Gl];refine iu (ih a.kids[i] b.kids[i] oM (Pa.wV ha (cI h)) (Pa.wV hb (cI h')) oM oM _) ?_;by_cases hx:a.kids[i]=b.kids[i]
   .rw[jC hx];simp[cU,dx,dG,bP i];refine⟨_,?_,_,?_,i+1,rfl,by omega,?_,rfl⟩
    .omega
    .exact aN
    .intro j hj;by_cases hji:j=i
     .subst hji;simp[h,h',hx]
     .exact hq j oM
   .rw[dy hx];simp[cU,dx,dG];refine dB rfl ?_ rfl;rw[<-hr,dy (fun hh=>hx (by subst hh;rfl))];rfl
  .have:i=a.kids.length:=by omega
   subst this;simp;refine dB rfl ?_ rfl;rw[<-hr,jC (Pa.eq_of he (qfY hkl hq))];rfl
open Classical in
def Zk(a b:Pa)(ha:a.ok)(hb:b.ok)(fa:a.fits)(fb:b.fits):∀S,Fn prog 118 [a.v,b.v] S (.bool (decide (a=b))):=by
 refine Pu.ib Ot ?_;simp[Ot,aC,ae];refine aG (M1 a ha _) ?_;simp[fa,ae];refine aG (M1 b hb _) ?_;simp[fb,ae];refine aG (qkC _ a b bL ha hb fa.1 fb.1 _) ?_;simp;exact aD (r:=rfl)
open Classical in
def qlD(a b:Sm)(ha:a.ok)(hb:b.ok)(fa:(Pa.st a).fits)(fb:(Pa.st b).fits):∀S,Fn prog 68 [a.v,b.v] S (.bool (decide (a=b))):=by
 refine Pu.ib Qm ?_;simp[Qm,aC,ae];refine iu (DG a _) ?_;simp[ae];refine iu (DG b _) ?_;simp;refine iu (Zk (.st a) (.st b) ha hb fa fb _) ?_;simp[cU,dx,dG,ae];exact aD (r:=by simp[aK])
open Classical in
def qk9(a b:Sm)(ha:a.ok)(hb:b.ok)(fa:(Pa.st a).fits)(fb:(Pa.st b).fits):∀S,Fn prog 23 [a.v,b.v] S (.bool (decide (a=b))):=by
 refine Pu.ib PQ ?_;simp[PQ,aC,ae];refine aG (qlD a b ha hb fa fb _) ?_;simp;exact aD (r:=rfl)
set_option maxHeartbeats 0
set_option maxRecDepth 100000
noncomputable def PY:=aI func256
noncomputable def P0:=aI func272
noncomputable def c273:F':=⟨8,[.t 2],.k [.a 2 (.sl true [])] (.seq (.k [.m 3 0,.o 4 (.ex (.eqn false (.t 3)))] (.d 4 (.k [.a 2 (.sl true [])] .ret) .skip)) (.k [.o 5 (.wh 4 []),.m 6 0,.o 7 (.app 4 40 (.t 5) (.t 6)),.m 2 7] .ret))⟩
def ok273:xr f273 c273:=zz
noncomputable def P1:=aI func277
end Go.Proofs.YtbifpocccfkhhaaGreatDoor

namespace Go.Proofs.YtbifpocccfkhhaaGreatDoor
open Go
structure Pw where
 H:Type
 f:Nat->Bz->Bz
 nm:Option (Ex->ag->Bool->Ex)
 cl:Option (Bz->ag->Bz)
 ent:H->Nat->Bz->H
 oZ:H->Ex->ag->Bool->H
 lC:H->Bz->ag->H
def fH(p:Pw)(sc:ag)(x:Bz):Bz:=match sc.at x with
 |some k=>p.f k x
 |none=>x
def enters(p:Pw)(h:p.H)(s:bw):p.H:=s.foldl (fun h e=>p.ent h e.2 e.1) h
def Pw.qg(p:Pw)(sc:ag)(tg:Bool)(x:Ex):Ex:=if Ex.named x.kind then match p.nm with
  |none=>.mk x.kind x.op x.n x.man x.exp (fH p sc x.text) x.args
  |some g=>g x sc tg
 else x
def Pw.mD(p:Pw)(sc:ag)(tg:Bool)(h:p.H)(x:Ex):p.H:=if Ex.named x.kind then match p.nm with
  |none=>h
  |some _=>p.oZ h x sc tg
 else h
mutual
def Ex.wr(p:Pw)(sc:ag)(tg:Bool):Ex->Ex
 |.mk k o n m e t a=>p.qg sc tg (.mk k o n m e t (Ex.aL p sc false a))
def Ex.aL(p:Pw)(sc:ag)(tg:Bool):List Ex->List Ex
 |[]=>[]
 |x::l=>Ex.wr p sc tg x::Ex.aL p sc tg l
end
def Ex.tp(p:Pw)(sc:ag)(tg:Bool):∀l,Ex.aL p sc tg l=l.map (Ex.wr p sc tg)
 |[]=>rfl
 |x::l=>by rw[Ex.aL,Ex.tp p sc tg l];rfl
mutual
def Ex.hs(p:Pw)(sc:ag)(tg:Bool)(h:p.H):Ex->p.H
 |.mk k o n m e t a=>p.mD sc tg (Ex.hsl p sc false h a) (.mk k o n m e t (Ex.aL p sc false a))
def Ex.hsl(p:Pw)(sc:ag)(tg:Bool)(h:p.H):List Ex->p.H
 |[]=>h
 |x::l=>Ex.hsl p sc tg (Ex.hs p sc tg h x) l
end
def Ex.qM(p:Pw)(sc:ag)(tg:Bool):∀(l m:List Ex) (h:p.H),Ex.hsl p sc tg h (l++m)=Ex.hsl p sc tg (Ex.hsl p sc tg h l) m
 |[],m,h=>rfl
 |x::l,m,h=>by simp only[cP,Ex.hsl];exact Ex.qM p sc tg l m _
def El.wr(p:Pw)(sc:ag)(e:El):El:=⟨e.kind,Ex.aL p sc false e.ak⟩
def El.hsl(p:Pw)(sc:ag)(h:p.H)(l:List El):p.H:=l.foldl (fun h e=>Ex.hsl p sc false h e.ak) h
def Fo.wr(p:Pw)(sc:ag)(x:Fo):Fo:=⟨fH p sc x.name,x.value,x.spec,x.type⟩
def Pw.oN(p:Pw)(sc:ag)(k:Int)(t:Bz):Bz:=if k=6 then match p.cl with
  |none=>fH p sc t
  |some c=>c t sc
 else t
def Pw.mf(p:Pw)(sc:ag)(k:Int)(h:p.H)(t:Bz):p.H:=if k=6 then match p.cl with
  |none=>h
  |some _=>p.lC h t sc
 else h
mutual
def Sm.wr(p:Pw)(sc:ag)(n:Nat):Sm->Sm
 |.mk l k t g e h d b=>
  if k=7 then
   .mk (l.map (fH p sc)) k t (Ex.aL p sc true g) e h (De.aL p (ah (bM d b) n::sc) sc (n+(ah (bM d b) n).length) d) (Sm.aL p (ah (bM d b) n::sc) (n+(ah (bM d b) n).length+De.aJ d) b)
  else if k=8 then
   .mk (l.map (fH p sc)) k t (Ex.aL p sc true g) e h d (Sm.aL p (ah (bq b) n::sc) (n+(ah (bq b) n).length) b)
  else .mk (l.map (fH p sc)) k (p.oN sc k t) (Ex.aL p sc true g) (Ex.aL p sc false e) (h.map (El.wr p sc)) d (Sm.dW p sc n b)
def De.wr(p:Pw)(own sc:ag)(n:Nat):De->De
 |.mk k o t nm e fo b=>
  if k=4 then .mk k o t (nm.map (fH p own)) (Ex.aL p own false e) (fo.map (Fo.wr p (ah (fo.map Fo.name) n::own))) (Sm.dW p (ah (fo.map Fo.name) n::own) (n+(ah (fo.map Fo.name) n).length) b)
  else .mk k o t (nm.map (fH p own)) (Ex.aL p (if k=2 then sc else own) false e) fo b
def De.aL(p:Pw)(own sc:ag)(n:Nat):List De->List De
 |[]=>[]
 |x::l=>De.wr p own sc n x::De.aL p own sc (n+De.nb x) l
def Sm.aL(p:Pw)(sc:ag)(n:Nat):List Sm->List Sm
 |[]=>[]
 |x::l=>Sm.wr p sc n x::Sm.aL p sc (n+Sm.nb x) l
def Sm.dW(p:Pw)(sc:ag)(n:Nat):List Sm->List Sm
 |[]=>[]
 |x::l=>Sm.wr p (ah x.labels n::sc) (n+(ah x.labels n).length) x::Sm.dW p sc (n+(ah x.labels n).length+Sm.nb x) l
end
mutual
def Sm.hs(p:Pw)(sc:ag)(n:Nat)(h:p.H):Sm->p.H
 |.mk _ k t g e el d b=>
  if k=7 then
   Sm.hsl p (ah (bM d b) n::sc) (n+(ah (bM d b) n).length+De.aJ d) (De.hsl p (ah (bM d b) n::sc) sc (n+(ah (bM d b) n).length) (enters p (Ex.hsl p sc true h g) (ah (bM d b) n)) d) b
  else if k=8 then
   Sm.hsl p (ah (bq b) n::sc) (n+(ah (bq b) n).length) (enters p (Ex.hsl p sc true h g) (ah (bq b) n)) b
  else p.mf sc k (Sm.hs1 p sc n (El.hsl p sc (Ex.hsl p sc false (Ex.hsl p sc true h g) e) el) b) t
def De.hs(p:Pw)(own sc:ag)(n:Nat)(h:p.H):De->p.H
 |.mk k _ _ _ e fo b=>
  if k=4 then Sm.hs1 p (ah (fo.map Fo.name) n::own) (n+(ah (fo.map Fo.name) n).length) (enters p (Ex.hsl p own false h e) (ah (fo.map Fo.name) n)) b
  else Ex.hsl p (if k=2 then sc else own) false h e
def De.hsl(p:Pw)(own sc:ag)(n:Nat)(h:p.H):List De->p.H
 |[]=>h
 |x::l=>De.hsl p own sc (n+De.nb x) (De.hs p own sc n h x) l
def Sm.hsl(p:Pw)(sc:ag)(n:Nat)(h:p.H):List Sm->p.H
 |[]=>h
 |x::l=>Sm.hsl p sc (n+Sm.nb x) (Sm.hs p sc n h x) l
def Sm.hs1(p:Pw)(sc:ag)(n:Nat)(h:p.H):List Sm->p.H
 |[]=>h
 |x::l=>Sm.hs1 p sc (n+(ah x.labels n).length+Sm.nb x) (Sm.hs p (ah x.labels n::sc) (n+(ah x.labels n).length) (enters p h (ah x.labels n)) x) l
end
def Sm.mI(p:Pw)(s:Sm):Sm:=s.wr p [ah s.labels 0] (ah s.labels 0).length
def Sm.kP(p:Pw)(h:p.H)(s:Sm):p.H:=s.hs p [ah s.labels 0] (ah s.labels 0).length (enters p h (ah s.labels 0))
def Sm.qf:∀(l m:List Sm),Sm.aJ (l++m)=Sm.aJ l+Sm.aJ m
 |[],m=>by simp[Sm.aJ]
 |x::l,m=>by simp only[cP,Sm.aJ,Sm.qf l m];omega
def De.qf:∀(l m:List De),De.aJ (l++m)=De.aJ l+De.aJ m
 |[],m=>by simp[De.aJ]
 |x::l,m=>by simp only[cP,De.aJ,De.qf l m];omega
def Sm.CS:∀(l m:List Sm),Sm.aX (l++m)=Sm.aX l+Sm.aX m
 |[],m=>by simp[Sm.aX]
 |x::l,m=>by simp only[cP,Sm.aX,Sm.CS l m];omega
def Sm.Ec(p:Pw)(sc:ag):∀(l m:List Sm) (n:Nat),Sm.aL p sc n (l++m)=Sm.aL p sc n l++Sm.aL p sc (n+Sm.aJ l) m
 |[],m,n=>by simp[Sm.aL,Sm.aJ]
 |x::l,m,n=>by simp only[cP,Sm.aL,Sm.aJ,Sm.Ec p sc l m,gj]
def De.Ec(p:Pw)(own sc:ag):∀(l m:List De) (n:Nat),De.aL p own sc n (l++m)=De.aL p own sc n l++De.aL p own sc (n+De.aJ l) m
 |[],m,n=>by simp[De.aL,De.aJ]
 |x::l,m,n=>by simp only[cP,De.aL,De.aJ,De.Ec p own sc l m,gj]
def Sm.qM(p:Pw)(sc:ag):∀(l m:List Sm) (n:Nat) (h:p.H),Sm.hsl p sc n h (l++m)=Sm.hsl p sc (n+Sm.aJ l) (Sm.hsl p sc n h l) m
 |[],m,n,h=>by simp[Sm.hsl,Sm.aJ]
 |x::l,m,n,h=>by simp only[cP,Sm.hsl,Sm.aJ,Sm.qM p sc l m,gj]
def De.qM(p:Pw)(own sc:ag):∀(l m:List De) (n:Nat) (h:p.H),De.hsl p own sc n h (l++m)=De.hsl p own sc (n+De.aJ l) (De.hsl p own sc n h l) m
 |[],m,n,h=>by simp[De.hsl,De.aJ]
 |x::l,m,n,h=>by simp only[cP,De.hsl,De.aJ,De.qM p own sc l m,gj]
def yq(m:Nat):∀(l:List Bz) (s s':bw) (n n':Nat),s.map (·.1)=s'.map (·.1)->(binds l s n).map (·.1)=(binds l s' n').map (·.1)
 |[],s,s',n,n',h=>h
 |x::l,s,s',n,n',h=>by
  have at_eq:∀(s s':bw),s.map (·.1)=s'.map (·.1)->(s.at x).isSome=(s'.at x).isSome:=by
   intro s
   induction s with
   |nil=>intro s' h;cases s' with
    |nil=>rfl
    |cons e s'=>simp at h
   |cons e s ih=>
    intro s' h
    cases s' with
    |nil=>simp at h
    |cons e' s'=>
     simp only[b9,List.cons.injEq]at h;have:=ih s' h.2;simp only[bw.at,vH,h.1]at this |-;by_cases hx:e'.1=x
     .simp[hx]
     .simp only[dy hx];exact this
  simp only[binds];rw[at_eq s s' h];split
  .exact yq m l s s' n n' h
  .exact yq m l _ _ _ _ (by simp[h])
def iR(l:List Bz)(n n':Nat):(ah l n).length=(ah l n').length:=by
 have:=congrArg List.length (yq 0 l [] [] n n' rfl);rw[bu,bu]at this;exact this
structure Kg(F:Np)(S:St)(F':Np)(U:St):Prop where
 k:Kp F S U
 g:∀l,F' l->F l\/S.length<=l
def Kg.refl(F:Np)(S:St):Kg F S F S:=⟨Kp.refl _ _,fun _ h=>.inl h⟩
def Kg.trans{F G H:Np}{S T U:St}(h:Kg F S G T)(g:Kg G T H U):Kg F S H U:=
 ⟨⟨fL h.k.len g.k.len,fun l hl hn=>by
  rw[g.k.get l (jP hl h.k.len) fun hh=>(h.g l hh).elim hn oM];exact h.k.get l hl hn⟩,fun l hh=>(g.g l hh).elim (h.g l) fun hl=>.inr (fL h.k.len hl)⟩
def Kg.push{F G:Np}{S U:St}(h:Kg F S G U)(os:List Ob):Kg F S G (U++os):=⟨h.k.push os,h.g⟩
def Kg.set{F G:Np}{S U:St}(h:Kg F S G U){l:Nat}(o:Ob)(hl:F l\/S.length<=l):Kg F S G (U.set l o):=⟨h.k.set o hl,h.g⟩
def Kg.off{F G:Np}{S U:St}(h:Kg F S G U){l:Nat}(hl:l<S.length)(hf:¬F l):¬G l:=fun hg=>(h.g l hg).elim hf oM
def Kg.with{F G:Np}{S U:St}(h:Kg F S G U)(L:Nat)(hl:L<S.length):Kg (fun x=>F x\/x=L) S (fun x=>G x\/x=L) U:=⟨h.k.mono fun _ _ h=>.inl h,fun l hh=>hh.elim (fun a=>(h.g l a).imp .inl id) fun e=>.inl (.inr e)⟩
def RG(F0:Np)(U0:St)(L:Nat)(i0:LI)(J1 Dr:Np->St->Prop)(De:Nat->Np->St->Prop):V->St->Prop:=fun v U=>∃F,Kg (fun x=>F0 x\/x=L) U0 (fun x=>F x\/x=L) U/\
 ((v=.bool true∧J1 F U∧U[L]?=some (.loop i0))∨(v=.bool false∧Dr F U∧U[L]?=some (.loop { i0 with st:=.done,pend:=some .ret }))∨
  ∃id,v=.bool false/\De id F U/\U[L]?=some (.loop { i0 with st:=.done,pend:=some (.exit id) }))
def He{F0 F:Np}{U0:St}{L:Nat}{i0:LI}{J1 Dr:Np->St->Prop}{De:Nat->Np->St->Prop}{e:af}{U:St}(hi:i0.st=.ready/\i0.pend=none)(h:U[L]?=some (.loop { i0 with st:=.busy }))(k:Kg (fun x=>F0 x\/x=L) U0 (fun x=>F x\/x=L) U)(g:J1 F (U.set L (.loop i0))):uL L (RG F0 U0 L i0 J1 Dr De) .normal e U:=by
 have hlt:=(aT.1 h).1;have:({ i0 with st:=.ready,pend:=none }:LI)=i0:=by cases i0;simp only at hi;simp[hi.1,hi.2]
 refine⟨_,h,F,k.set _ (.inl (.inr rfl)),.inl ⟨rfl,?_,?_⟩⟩
 .simp only[this];exact g
 .simp only[this];rw[bJ hlt]
def qiU{F0 F:Np}{U0:St}{L:Nat}{i0:LI}{J1 Dr:Np->St->Prop}{De:Nat->Np->St->Prop}{e:af}{U:St}(h:U[L]?=some (.loop { i0 with st:=.busy }))(k:Kg (fun x=>F0 x\/x=L) U0 (fun x=>F x\/x=L) U)(g:Dr F (U.set L (.loop { i0 with st:=.done,pend:=some .ret }))):uL L (RG F0 U0 L i0 J1 Dr De) .ret e U:=by
 have hlt:=(aT.1 h).1;exact⟨_,h,F,k.set _ (.inl (.inr rfl)),.inr (.inl ⟨rfl,g,by rw[bJ hlt]⟩)⟩
def AZ(P:Program)(k:Nat)(fs cs:List V)(xs:List (List V))(cap:St->Prop):Prop:=
 ∀(S:St) (l:Nat) (J:Nat->Np->St->Prop) (D:Np->St->Prop) (F0:Np),(∀i F U,J i F U->∀x,F x->x<U.length)->(∀i F U,J i F U->cap U)->(∀i F U o,J i F U->J i F (U++[o]))->(∀F U o,D F U->D F (U++[o]))->
  (∀i F U L o o',S.length<=L->J i F U->U[L]?=some (.loop o)->J i F (U.set L (.loop o')))->(∀F U L o o',S.length<=L->D F U->U[L]?=some (.loop o)->D F (U.set L (.loop o')))->
  (∀(i:Nat) (a:List V),xs[i]?=some a->∀F U,J i F U->Kg F0 S F U->fA P l a U (fun v U'=>∃F',Kg F U F' U'/\((v=.bool true/\J (i+1) F' U')\/(v=.bool false/\D F' U'))))->J 0 F0 S->
  au P k (fs++[.cj l]++cs) S (fun _ U=>∃F,Kg F0 S F U/\(J xs.length F U\/D F U))
def Kg.uW{F G:Np}{S U:St}{o o':Ob}(h:Kg (fun x=>F x\/x=S.length) (S++[o]) (fun x=>G x\/x=S.length) U):Kg F S G (U.set S.length o'):=
 ⟨h.k.uW,fun l hl=>(h.g l (.inl hl)).elim (fun a=>a.imp id oM) fun a=>.inr (by simp at a;omega)⟩
def QW{P:Program}{g:aV}{ps:List Nat}{bT body:Code}{ca cb:C'}{N:Nat}{ts:List Nat}{Q:cM}{e:af}{S:St}{k:Nat}{fs cs:List V}{xs:List (List V)}{cap:St->Prop}
  (hg:g.ev e=some (.fn (.func k) fs cs)) (hy:AZ P k fs cs xs cap) (na:ca.fp=true) (nb:cb.fp=true) (hps:ps.all (fun p=>decide (p<N))=true) (hlen:∀a,a∈xs->a.length=ps.length)
  (F0:Np) (J:Nat->Np->St->Prop) (Dr:Np->St->Prop) (De:Nat->Np->St->Prop) (hB:∀i F U,J i F U->∀x,F x->x<U.length) (hcap:∀i F U,J i F U->cap U)
  (hJ:∀i F U,J i F U->∀o,J i F (U++[o])) (hDr:∀F U,Dr F U->∀o,Dr F (U++[o])) (hDe:∀id F U,De id F U->∀o,De id F (U++[o]))
  (rU:∀i F U L o o',S.length<=L->J i F U->U[L]?=some (.loop o)->J i F (U.set L (.loop o'))) (hDl:∀F U L o o',S.length<=L->Dr F U->U[L]?=some (.loop o)->Dr F (U.set L (.loop o'))) (BL:∀id F U L o o',S.length<=L->De id F U->U[L]?=some (.loop o)->De id F (U.set L (.loop o')))
  (h0:J 0 F0 (S++[.loop ⟨.ready,none,ps,bT,body,e.keep ts,N⟩]))
  (hr:∀(i:Nat) (a:List V),xs[i]?=some a→∀F U,J i F U→Kg (fun x=>F0 x∨x=S.length) (S++[.loop ⟨.ready,none,ps,bT,body,e.keep ts,N⟩]) (fun x=>F x∨x=S.length) U→U[S.length]?=some (.loop ⟨.ready,none,ps,bT,body,e.keep ts,N⟩)→
   WP P ca (A7 P S.length cb (RG F U S.length ⟨.ready,none,ps,bT,body,e.keep ts,N⟩ (J (i+1)) Dr De)) (nT ps a (e.keep ts)) U)
  (hn:∀F U,J xs.length F U->Kg F0 S F U->Q .normal e U) (hret:∀F U,Dr F U->Kg F0 S F U->Q .ret e U) (J9:∀id F U,De id F U->Kg F0 S F U->Q (.exit id) e U):
  WP P (.rf g ps bT body ca cb N ts) Q e S:=by
 intro hca hcb;rw[hg];refine ⟨_,hy (S++[.loop ⟨.ready,none,ps,bT,body,e.keep ts,N⟩]) S.length (fun i G U=>∃F,G=(fun x=>F x∨x=S.length)∧J i F U∧U[S.length]?=some (.loop ⟨.ready,none,ps,bT,body,e.keep ts,N⟩))
  (fun G U=>∃F,G=(fun x=>F x\/x=S.length)/\((Dr F U/\U[S.length]?=some (.loop ⟨.done,some .ret,ps,bT,body,e.keep ts,N⟩))\/∃id,De id F U/\U[S.length]?=some (.loop ⟨.done,some (.exit id),ps,bT,body,e.keep ts,N⟩)))
  (fun x=>F0 x\/x=S.length) ?_ (fun i G U ⟨F,_,h,_⟩=>hcap i F U h) (fun i G U o ⟨F,h1,h2,h3⟩=>⟨F,h1,hJ i F U h2 o,?_⟩) ?_ ?_ ?_ ?_ ⟨F0,rfl,h0,by simp⟩,?_⟩
 .rintro i G U ⟨F,rfl,h,h3⟩ x (hx|rfl)
  .exact hB i F U h x hx
  .exact(aT.1 h3).1
 .rw[b8 (aT.1 h3).1];exact h3
 .rintro G U o ⟨F,rfl,⟨h1,h2⟩|⟨id,h1,h2⟩⟩
  .exact⟨F,rfl,.inl ⟨hDr F U h1 o,by rw[b8 (aT.1 h2).1];exact h2⟩⟩
  .exact⟨F,rfl,.inr ⟨id,hDe id F U h1 o,by rw[b8 (aT.1 h2).1];exact h2⟩⟩
 .rintro i G U L o o' hL ⟨F,rfl,h1,h2⟩ h3;simp at hL;exact⟨F,rfl,rU i F U L o o' oM h1 h3,by rw[bC oM];exact h2⟩
 .rintro G U L o o' hL ⟨F,rfl,⟨h1,h2⟩|⟨id,h1,h2⟩⟩ h3
  .simp at hL;exact⟨F,rfl,.inl ⟨hDl F U L o o' oM h1 h3,by rw[bC oM];exact h2⟩⟩
  .simp at hL;exact⟨F,rfl,.inr ⟨id,BL id F U L o o' oM h1 h3,by rw[bC oM];exact h2⟩⟩
 .rintro i a ha G U ⟨F,rfl,hj,hl⟩ hk;refine fA.mono' (fA.intro hl hca hcb rfl na nb ?_ hps (hr i a ha F U hj hk hl)) ?_
  .exact hlen _ (dc ha)
  .rintro v U' ⟨F',hk',⟨rfl,h1,h2⟩|⟨rfl,h1,h2⟩|⟨id,rfl,h1,h2⟩⟩
   .exact⟨_,hk',.inl ⟨rfl,F',rfl,h1,h2⟩⟩
   .exact⟨_,hk',.inr ⟨rfl,F',rfl,.inl ⟨h1,h2⟩⟩⟩
   .exact⟨_,hk',.inr ⟨rfl,F',rfl,.inr ⟨id,h1,h2⟩⟩⟩
 .rintro r U ⟨G,hk,⟨F,rfl,h1,h2⟩|⟨F,rfl,⟨h1,h2⟩|⟨id,h1,h2⟩⟩⟩
  .exact⟨_,h2,by simp,hn F _ (rU _ F U _ _ _ bL h1 h2) hk.uW⟩
  .exact⟨_,h2,by simp,hret F _ (hDl F U _ _ _ bL h1 h2) hk.uW⟩
  .exact⟨_,h2,by simp,J9 id F _ (BL id F U _ _ _ bL h1 h2) hk.uW⟩
end Go.Proofs.YtbifpocccfkhhaaGreatDoor
end
