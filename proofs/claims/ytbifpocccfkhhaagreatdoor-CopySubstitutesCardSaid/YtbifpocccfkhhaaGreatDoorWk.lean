/- A part. -/
import Derived.Test.YtbifpocccfkhhaaGreatDoorWj
import Derived.Sort.Walk0
set_option linter.all false
noncomputable section
namespace Go.Proofs.YtbifpocccfkhhaaGreatDoor
open Go Go.Proofs.Tryz
abbrev Ae:=Bz×Ex
def cw:List Ae->Lk
 |[],_=>none
 |e::es,x=>if e.1=x then some e.2 else cw es x
def jQ(e:Ae):V×V:=(.str e.1,e.2.v)
def Ls(x:Bz):∀(t:List Ae) (i:Nat),∃j,jF .str (.str x) (t.map jQ) i=some ((cw t x).map fun y=>(j,y.v))
 |[],i=>⟨0,rfl⟩
 |e::t,i=>by
  simp only[b9,jQ,jF,nN,cw];by_cases h:x=e.1
  .rw[show(x.data.toList==e.1.data.toList)=true by rw[h];simp,ai h.symm];exact⟨i,rfl⟩
  ·rw[show (x.data.toList==e.1.data.toList)=false by
    rw[beq_eq_false_iff_ne];intro hh;exact h (pE (qz hh)),aj (Ne.symm h)]
   exact Ls x t (i+1)
def nQ(es:List Ae)(x:Bz):V:=match cw es x with
 |some y=>y.v
 |none=>eD
def Ll{S:St}{m:Nat}{es:List Ae}{bs:List Nat}{ck:Nat}(x:Bz)(h:S[m]?=some (.map (es.map jQ) bs ck)):
  mA S .str (.agg [.int .i64 0,.int .i64 0,.int .i64 0,.int .i64 0,.int .i64 0,.str ⟨⟨[]⟩⟩,.sl true []]) true (.map m) (.str x)=some (.aH [nQ es x,.bool (cw es x).isSome]):=by
 obtain⟨j,hj⟩:=Ls x es 0;unfold mA nQ;rw[ai (by rfl)];simp only[uk,h,hj];cases cw es x<;>rfl
structure gA(es:List Ae)(cb m cg ct:Nat)(h:Bool)(F D:Np)(U:St):Prop where
 b:U[cb]?=some (.arr [.map m] 1 1)
 mm:∃bs ck,U[m]?=some (.map (es.map jQ) bs ck)
 g:U[cg]?=some (.arr [.bool h] 1 1)
 t:U[ct]?=some (.arr [.fn (.func 148) [] [.ptr cb 0 0 1,.ptr cg 0 0 1]] 1 1)
 hF:∀l,F l↔l=cg
 hD:∀l,D l↔l=cb\/l=m\/l=ct
section
variable {es:List Ae} {cb m cg ct:Nat} {h:Bool} {F D:Np} {U:St}
theorem gA.fr{U':St}{M:Np}(k:gA es cb m cg ct h F D U)(hk:Kp M U U')(hM:∀l,M l->l<U.length->¬F l/\¬D l):gA es cb m cg ct h F D U':=by
 obtain⟨bs,ck,hm⟩:=k.mm;exact⟨hk.at k.b fun hh=>(hM _ hh (aM k.b)).2 ((k.hD _).2 (.inl rfl)),⟨bs,ck,hk.at hm fun hh=>(hM _ hh (aM hm)).2 ((k.hD _).2 (.inr (.inl rfl)))⟩,hk.at k.g fun hh=>(hM _ hh (aM k.g)).1 ((k.hF _).2 rfl),hk.at k.t fun hh=>(hM _ hh (aM k.t)).2 ((k.hD _).2 (.inr (.inr rfl))),k.hF,k.hD⟩
theorem gA.put(k:gA es cb m cg ct h F D U)(h':Bool):gA es cb m cg ct h' F D (U.set cg (.arr [.bool h'] 1 1)):=by
 obtain⟨bs,ck,hm⟩:=k.mm;exact⟨by rw[bC (qV k.g k.b sM)];exact k.b,⟨bs,ck,by rw[bC (qV k.g hm sM)];exact hm⟩,bJ (aM k.g),by rw[bC (qV k.g k.t sM)];exact k.t,k.hF,k.hD⟩
theorem gA.lt(k:gA es cb m cg ct h F D U){l:Nat}(hl:F l\/D l):l<U.length:=by
 rcases hl with hl|hl
 .rw[(k.hF l).1 hl];exact aM k.g
 .rcases(k.hD l).1 hl with rfl|rfl|rfl
  .exact aM k.b
  .obtain⟨_,_,hm⟩:=k.mm;exact aM hm
  .exact aM k.t
theorem qjf{lk:Lk}{sc:ag}{x:Bz}(h:lk x=none):jG lk sc x=x/\jB lk sc x=false:=by
 unfold jG jB uP su;cases sc.at x<;>simp[h]
theorem qjg{lk:Lk}{sc:ag}{x:Bz}{y:Ex}(h:lk x=some y)(hs:sc.at x=none):jG lk sc x=y.text/\jB lk sc x=decide (y.kind≠6):=by
 unfold jG jB uP su;simp[h,hs]
theorem qje{lk:Lk}{sc:ag}{x:Bz}(hs:(sc.at x).isSome=true):jG lk sc x=x/\jB lk sc x=false:=by
 unfold jG jB
 cases h:sc.at x with
 |none=>rw[h]at hs;cases hs
 |some k=>simp
theorem Zs(k:gA es cb m cg ct h F D U){p:Pw}{X:Np}{w:V}{ts:List cT}(hsc:cS p X U w ts)(x:Bz):
  au prog 148 [.str x,w,.ptr cb 0 0 1,.ptr cg 0 0 1] U (fun r U'=>r=.str (jG (cw es) (am ts) x)/\gA es cb m cg ct (h||jB (cw es) (am ts) x) F D U'/\Kp F U U'):=by
 refine au.ib OE ?_;have hb:=k.b;obtain⟨bs,ck,hm⟩:=k.mm;have hl:=Ll (es:=es) (bs:=bs) (ck:=ck) x hm;simp[OE,ae,hb,aZ,hl]
 cases hy:cw es x with
 |none=>
  obtain⟨e1,e2⟩:=qjf (sc:=am ts) hy;rw[e1,e2,i5];have hE:nQ es x=eD:=by unfold nQ;rw[hy]
  rw[hE];unfold eD;simp[aC,aA,aE];refine aS (vs:=[.str x]) (by simp[dm]) ⟨rfl,?_,?_⟩
  .exact k.fr (M:=fun _=>False) ((Kp.refl _ _).push _) fun _ h=>h.elim
  .exact(Kp.refl _ _).push _
 |some y=>
  have hE:nQ es x=y.v:=by unfold nQ;rw[hy]
  rw[hE];have hn:V.upd (.agg [.int .i64 0,.int .i64 0,.int .i64 0,.int .i64 0,.int .i64 0,.str ⟨⟨[]⟩⟩,.sl true []]) 0 7 y.v=some y.v:=by rw[aE];simp
  simp[aC,aA,hn];obtain⟨U1,dl⟩:∃U1:St,U1=U++[.arr [y.v] 7 1]:=⟨_,rfl⟩;have b0:U1[U.length]?=some (.arr [y.v] 7 1):=by rw[dl];simp
  have lG:Kp F U U1:=by rw[dl];exact(Kp.refl _ _).push _
  have k1:gA es cb m cg ct h F D U1:=by rw[dl];exact k.fr (M:=fun _=>False) ((Kp.refl _ _).push _) fun _ h=>h.elim
  have s1:cS p X U1 w ts:=by rw[dl];exact hsc.push _
  rw[<-dl];clear dl;refine aG (xQ s1 x) ?_;have hf:=tY ts x
  cases hfd:kq ts x with
  |some q=>
   have hs:((am ts).at x).isSome=true:=by rw[hf,hfd];rfl
   obtain⟨e1,e2⟩:=qje (lk:=cw es) hs;rw[e1,e2,i5];simp[gK,hfd,eh,dN];exact aS (vs:=[.str x]) (by simp[dm]) ⟨rfl,k1,lG⟩
  |none=>
   have hs:(am ts).at x=none:=by rw[hf,hfd];rfl
   obtain⟨e1,e2⟩:=qjg hy hs;rw[e1,e2];have g1:=k1.g;have fin:∀(b':Bool) (e:af),e.get 6=some (.str y.text)->eH [.t 6] U.length (fun r U'=>r=.str y.text/\gA es cb m cg ct b' F D U'/\Kp F U U') .ret e (U1.set cg (.arr [.bool b'] 1 1)):=
    fun b' e he=>aS (vs:=[.str y.text]) (by simp[dm,he]) ⟨rfl,k1.put b',lG.set _ (.inl ((k.hF cg).2 rfl))⟩
   have ng:∀o,(U1.set cg o)[U.length]?=some (.arr [y.v] 7 1):=fun o=>by
    rw[bC (by have:=aM k.g;omega)];exact b0
   cases h with
   |true=>
    simp[gK,hfd,eh,dN,ae,g1,aA,jK,ng];refine fin true _ ?_;simp
   |false=>
    simp[gK,hfd,eh,dN,ae,g1,b0,aA,jK,ng];exact fin _ _ sM
theorem qkt(hz:∀x y,cw es x=some y->(Pa.ex y).size<=4000)(k:gA es cb m cg ct h F D U){p:Pw}{X:Np}{w:V}{ts:List cT}(hsc:cS p X U w ts)(x:Ex)(tg:Bool):
  au prog 149 [x.v,w,.bool tg,.ptr ct 0 0 1,.ptr cb 0 0 1,.ptr cg 0 0 1] U (fun r U'=>r=(if x.kind=6 then pe (cw es) (am ts) x else .mk x.kind x.op x.n x.man x.exp (jG (cw es) (am ts) x.text) x.args).v/\gA es cb m cg ct (h||(if x.kind=6 then pw (cw es) (am ts) tg x.text else jB (cw es) (am ts) x.text)) F D U'/\Kp F U U'):=by
 refine au.ib OG ?_;simp[OG,aC];obtain⟨U1,dl⟩:∃U1:St,U1=U++[.arr [x.v] 7 1,.arr [.agg [.int .i64 0,.int .i64 0,.int .i64 0,.int .i64 0,.int .i64 0,.str ⟨⟨[]⟩⟩,.sl true []]] 7 1]:=⟨_,rfl⟩;rw[<-dl];have l1:U1.length=U.length+2:=by rw[dl];simp
 have b0:U1[U.length]?=some (.arr [x.v] 7 1):=by rw[dl];simp
 have b1:U1[U.length+1]?=some (.arr [.agg [.int .i64 0,.int .i64 0,.int .i64 0,.int .i64 0,.int .i64 0,.str ⟨⟨[]⟩⟩,.sl true []]] 7 1):=by rw[dl,bK oM];simp
 have lG:Kp F U U1:=by rw[dl];exact(Kp.refl _ _).push _
 have k1:gA es cb m cg ct h F D U1:=by rw[dl];exact k.fr (M:=fun _=>False) ((Kp.refl _ _).push _) fun _ h=>h.elim
 have s1:cS p X U1 w ts:=by rw[dl];exact hsc.push _
 clear dl;have nF:∀j,¬F (U.length+j):=fun j hf=>by have:=k.lt (.inl hf);omega
 have nD:∀j,¬D (U.length+j):=fun j hf=>by have:=k.lt (.inr hf);omega
 have hn:∀y:Ex,V.upd (.agg [.int .i64 0,.int .i64 0,.int .i64 0,.int .i64 0,.int .i64 0,.str ⟨⟨[]⟩⟩,.sl true []]) 0 7 y.v=some y.v:=fun y=>by rw[aE];simp
 simp[ae,b0];by_cases h6:x.kind=6
 case neg=>
  simp only[aj h6];have h7:=k1.t;simp[h6,ae,h7,b0];refine aU (Zs k1 s1 x.text) ?_;rintro r U2 ⟨rfl,k2,lH⟩;have c0:=lH.at b0 (nF 0);have c1:=lH.at b1 (nF 1);obtain⟨y,hy⟩:∃y,y=jG (cw es) (am ts) x.text:=⟨_,rfl⟩;rw[<-hy];obtain⟨z,hz⟩:∃z:Ex,z=.mk x.kind x.op x.n x.man x.exp y x.args:=⟨_,rfl⟩;have hzv:Ob.arr [V.agg [.int .i64 x.kind,.int .i64 x.op,.int .i64 x.n,.int .i64 x.man,.int .i64 x.exp,.str y,.sl false (x.args.map Ex.v)]] 7 1=.arr [z.v] 7 1:=by rw[hz,Ex.dJ];rfl
  rw[<-hz];simp[aA,c0,qt,aE];rw[hzv];have d0:(U2.set U.length (.arr [z.v] 7 1))[U.length]?=some (.arr [z.v] 7 1):=bJ (aM c0);have d1:(U2.set U.length (.arr [z.v] 7 1))[U.length+1]?=some (.arr [.agg [.int .i64 0,.int .i64 0,.int .i64 0,.int .i64 0,.int .i64 0,.str ⟨⟨[]⟩⟩,.sl true []]] 7 1):=by rw[bC oM];exact c1
  obtain⟨U3,mN⟩:∃U3,U3=U2.set U.length (.arr [z.v] 7 1):=⟨_,rfl⟩;rw[<-mN]at d0 d1 |-;simp[ae,d0,aA,d1,aE];have hw:(U3.set (U.length+1) (.arr [z.v] 7 1))[U.length+1]?=some (.arr [z.v] 7 1):=bJ (aM d1);refine aS (vs:=[z.v]) (by simp[dm,ae,hw]) ⟨rfl,?_,?_⟩
  .refine gA.fr (M:=fun l=>l=U.length\/l=U.length+1) k2 ?_ fun l hl _=>?_
   .rw[mN];exact((Kp.refl _ _).set _ (.inl (.inl rfl))).set _ (.inl (.inr rfl))
   .rcases hl with rfl|rfl
    .exact⟨nF 0,nD 0⟩
    .exact⟨nF 1,nD 1⟩
  .rw[mN];exact((lG.trans lH).set _ (.inr bL)).set _ (.inr oM)
 simp only[ai h6];have hb:=k1.b;obtain⟨bs,ck,hm⟩:=k1.mm;have hl:=Ll (es:=es) (bs:=bs) (ck:=ck) x.text hm;simp[h6,ae,b0,hb,aZ,hl,aC];obtain⟨v,hv⟩:∃v,v=nQ es x.text:=⟨_,rfl⟩
 have ux:V.upd (.agg [.int .i64 0,.int .i64 0,.int .i64 0,.int .i64 0,.int .i64 0,.str ⟨⟨[]⟩⟩,.sl true []]) 0 7 v=some v:=by
  rw[hv];unfold nQ
  cases cw es x.text with
  |none=>rfl
  |some y=>exact hn y
 rw[<-hv];simp[aA,ux];obtain⟨U2,cA⟩:∃U2:St,U2=U1++[.arr [v] 7 1]:=⟨_,rfl⟩;have c0:U2[U.length]?=some (.arr [x.v] 7 1):=by rw[cA];exact gp b0
 have c1:U2[U.length+1]?=some (.arr [.agg [.int .i64 0,.int .i64 0,.int .i64 0,.int .i64 0,.int .i64 0,.str ⟨⟨[]⟩⟩,.sl true []]] 7 1):=by rw[cA];exact gp b1
 have c2:U2[U1.length]?=some (.arr [v] 7 1):=by rw[cA,bK oM];simp
 have lH:Kp F U U2:=by rw[cA];exact lG.push _
 have k2:gA es cb m cg ct h F D U2:=by rw[cA];exact k1.fr (M:=fun _=>False) ((Kp.refl _ _).push _) fun _ h=>h.elim
 have s2:cS p X U2 w ts:=by rw[cA];exact s1.push _
 rw[<-cA];clear cA;have l2:=lH.len
 have same:∀e:af,e.get 9=some (.ptr (U.length+1) 0 0 1)->eH [.cell 9 (some 7)] U.length (fun r U'=>r=x.v/\gA es cb m cg ct h F D U'/\Kp F U U') .ret e (U2.set (U.length+1) (.arr [x.v] 7 1)):=fun e he=>by
  have hw:(U2.set (U.length+1) (.arr [x.v] 7 1))[U.length+1]?=some (.arr [x.v] 7 1):=bJ (aM c1);refine aS (vs:=[x.v]) (by simp[dm,he,ae,hw]) ⟨rfl,?_,lH.set _ (.inr oM)⟩;exact k2.fr (M:=fun l=>l=U.length+1) ((Kp.refl _ _).set _ (.inl rfl)) fun l hl _=>by rw[hl];exact⟨nF 1,nD 1⟩
 cases hy:cw es x.text with
 |none=>
  have e1:pe (cw es) (am ts) x=x:=by unfold pe;rw[hy];cases (am ts).at x.text<;>rfl
  have e2:pw (cw es) (am ts) tg x.text=false:=by unfold pw sQ;rw[hy];cases (am ts).at x.text<;>rfl
  rw[e1,e2,i5];simp[ae,c0,aA,c1,aE];refine same _ ?_;simp
 |some y=>
  have hE:v=y.v:=by rw[hv];unfold nQ;rw[hy]
  subst hE;simp[ae,c0];refine aG (xQ s2 x.text) ?_;have hf:=tY ts x.text
  cases hfd:kq ts x.text with
  |some q=>
   have hs:(am ts).at x.text=some q.1:=by rw[hf,hfd];rfl
   have e1:pe (cw es) (am ts) x=x:=by unfold pe;rw[hs]
   have e2:pw (cw es) (am ts) tg x.text=false:=by unfold pw;rw[hs]
   rw[e1,e2,i5];simp[gK,hfd,eh,dN,ae,c0,aA,c1,aE];refine same _ ?_;simp
  |none=>
   have hs:(am ts).at x.text=none:=by rw[hf,hfd];rfl
   have e1:pe (cw es) (am ts) x=y:=by unfold pe;rw[hs,hy];rfl
   have e2:pw (cw es) (am ts) tg x.text=(tg&&decide (y.kind≠6)&&decide (y.kind≠7)):=by unfold pw sQ;rw[hs,hy]
   rw[e1,e2];have g2:=k2.g;have lg:=aM k.g;have d1:∀b',(U2.set cg (.arr [.bool b'] 1 1))[U.length+1]?=some (.arr [.agg [.int .i64 0,.int .i64 0,.int .i64 0,.int .i64 0,.int .i64 0,.str ⟨⟨[]⟩⟩,.sl true []]] 7 1):=fun b'=>by rw[bC oM];exact c1
   have d2:∀b',(U2.set cg (.arr [.bool b'] 1 1))[U1.length]?=some (.arr [y.v] 7 1):=fun b'=>by rw[bC oM];exact c2
   have fin:∀(b':Bool) (U4:St),Kp (fun _=>False) (U2.set cg (.arr [.bool b'] 1 1)) U4->U4[U.length+1]?=some (.arr [.agg [.int .i64 0,.int .i64 0,.int .i64 0,.int .i64 0,.int .i64 0,.str ⟨⟨[]⟩⟩,.sl true []]] 7 1)/\∀e:af,e.get 9=some (.ptr (U.length+1) 0 0 1)->
     eH [.cell 9 (some 7)] U.length (fun r U'=>r=y.v/\gA es cb m cg ct b' F D U'/\Kp F U U') .ret e (U4.set (U.length+1) (.arr [y.v] 7 1)):=fun b' U4 qc=>by
    have k3:=k2.put b';have kp3:Kp F U (U2.set cg (.arr [.bool b'] 1 1)):=lH.set _ (.inl ((k.hF cg).2 rfl));have e1:=qc.at (d1 b') id;refine⟨e1,fun e he=>?_⟩;have hw:(U4.set (U.length+1) (.arr [y.v] 7 1))[U.length+1]?=some (.arr [y.v] 7 1):=bJ (aM e1);refine aS (vs:=[y.v]) (by simp[dm,he,ae,hw]) ⟨rfl,?_,(kp3.trans (qc.mono fun _ _ h=>h.elim)).set _ (.inr oM)⟩;exact k3.fr (M:=fun l=>l=U.length+1) ((qc.mono fun _ _ h=>h.elim).set _ (.inl rfl)) fun l hl _=>by rw[hl];exact⟨nF 1,nD 1⟩
   cases h with
   |true=>
    simp only[Bool.true_or];simp[gK,hfd,eh,dN,ae,g2,aA,jK,d2];refine aU (HF y (hz _ _ hy) _) ?_;rintro r U4 ⟨rfl,qc⟩;obtain⟨f1,f2⟩:=fin _ U4 qc;simp[aA,f1,hn];exact f2 _ sM
   |false=>
    simp only[Ak]
    cases tg with
    |false=>
     simp only[Aj];simp[gK,hfd,eh,dN,ae,g2,aA,jK,d2];refine aU (HF y (hz _ _ hy) _) ?_;rintro r U4 ⟨rfl,qc⟩;obtain⟨f1,f2⟩:=fin _ U4 qc;simp[aA,f1,hn];exact f2 _ sM
    |true=>
     simp only[l8];by_cases y6:y.kind=6
     .simp[gK,hfd,eh,dN,ae,g2,c2,y6,aA,jK,d2];refine aU (HF y (hz _ _ hy) _) ?_;rintro r U4 ⟨rfl,qc⟩;obtain⟨f1,f2⟩:=fin _ U4 qc;simp[aA,f1,hn];exact f2 _ sM
     .simp[gK,hfd,eh,dN,ae,g2,c2,y6,aA,jK,d2];refine aU (HF y (hz _ _ hy) _) ?_;rintro r U4 ⟨rfl,qc⟩;obtain⟨f1,f2⟩:=fin _ U4 qc;simp[aA,f1,hn];exact f2 _ sM
end
def uN(es:List Ae)(cb m cg ct:Nat):Cb where
 toPw:=db (cw es)
 fe:=.bB
 fn:=.fn (.func 149) [] [.ptr ct 0 0 1,.ptr cb 0 0 1,.ptr cg 0 0 1]
 fc:=.fn (.func 148) [] [.ptr cb 0 0 1,.ptr cg 0 0 1]
 I h F D U:=gA es cb m cg ct h F D U
 cn _ _:=True
 lim:=100001
def YM(es:List Ae)(cb m cg ct:Nat)(hz:∀x y,cw es x=some y->(Pa.ex y).size<=4000):(uN es cb m cg ct).Ok where
 lim:=cq _
 lt:=fun k l hl=>gA.lt k hl
 fr:=fun k hk hM=>gA.fr k hk hM
 lp:=fun {h F D S} k l o ho=>by
  have k:gA es cb m cg ct h F D S:=k;refine⟨fun hf=>?_,fun hf=>?_⟩
  .rw[(k.hF l).1 hf,k.g]at ho;cases ho
  .rcases(k.hD l).1 hf with rfl|rfl|rfl
   .rw[k.b]at ho;cases ho
   .obtain⟨_,_,hm⟩:=k.mm;rw[hm]at ho;cases ho
   .rw[k.t]at ho;cases ho
 ce _ _:=trivial
 cm _ _ _ _:=trivial
 cc _ _ _:=trivial
 real:=fun {h F D S} k h'=>by
  have k:gA es cb m cg ct h F D S:=k;exact⟨F,D,_,k.put h',(Kp.refl _ _).set _ (.inl ((k.hF cg).2 rfl)),grow.refl _ _,grow.refl _ _⟩
 en:=.inl ⟨rfl,fun _ _=>rfl,fun _ _ _=>rfl⟩
 nm:=⟨149,[.ptr ct 0 0 1,.ptr cb 0 0 1,.ptr cg 0 0 1],rfl,fun U x w ts tg w' h F D hsc k=>au.mono (qkt hz k hsc x tg) fun r U' ⟨a,b,c⟩=>⟨a,F,D,b,c,grow.refl _ _,grow.refl _ _⟩⟩
 cl:=⟨148,[.ptr cb 0 0 1,.ptr cg 0 0 1],rfl,fun U x w ts w' h F D hsc k=>au.mono (Zs k hsc x) fun r U' ⟨a,b,c⟩=>⟨a,F,D,b,c,grow.refl _ _,grow.refl _ _⟩⟩
def QJ(es:List Ae)(m:Nat)(S:St)(r:V)(U:St):Prop:=∃w cb cg ct F D,r=.aH [.ptr w 0 0 1,.ptr cg 0 0 1]/\Wk (uN es cb m cg ct) w 0 false F D U/\S.length<=w/\S.length<=cg/\(∀l,F l↔l=cg)/\Kp (fun _=>False) S U
def ZN(es:List Ae)(m:Nat)(bs:List Nat)(ck:Nat)(S:St)(hm:S[m]?=some (.map (es.map jQ) bs ck)):
  au prog 96 [.map m] S (QJ es m S):=by
 refine au.ib QC ?_;simp[QC,aC,ae,aA,bj,bz,aZ,jK,HL,aE,cF];obtain⟨B,hB⟩:∃B,B=S.length:=⟨_,rfl⟩;rw[<-hB];obtain⟨U,hU⟩:∃U:St,U=S++[.arr [.map m] 1 1,.arr [.bool false] 1 1,.arr [.fn (.func 148) [] [.ptr B 0 0 1,.ptr (B+1) 0 0 1]] 1 1,.arr [.agg [.int .i64 0,.bB,.fn (.func 149) [] [.ptr (B+2) 0 0 1,.ptr B 0 0 1,.ptr (B+1) 0 0 1],.fn (.func 148) [] [.ptr B 0 0 1,.ptr (B+1) 0 0 1]]] 4 1]:=⟨_,rfl⟩;rw[<-hU];have b0:U[B]?=some (.arr [.map m] 1 1):=by rw[hU,hB];simp
 have b1:U[B+1]?=some (.arr [.bool false] 1 1):=by rw[hU,hB,bK oM];simp
 have b2:U[B+2]?=some (.arr [.fn (.func 148) [] [.ptr B 0 0 1,.ptr (B+1) 0 0 1]] 1 1):=by rw[hU,hB,bK oM];simp
 have b3:U[B+3]?=some (.arr [.agg [.int .i64 0,.bB,.fn (.func 149) [] [.ptr (B+2) 0 0 1,.ptr B 0 0 1,.ptr (B+1) 0 0 1],.fn (.func 148) [] [.ptr B 0 0 1,.ptr (B+1) 0 0 1]]] 4 1):=by rw[hU,hB,bK oM];simp
 have bm:U[m]?=some (.map (es.map jQ) bs ck):=by rw[hU,b8 (aM hm)];exact hm
 have kS:Kp (fun _=>False) S U:=by rw[hU];exact(Kp.refl _ _).push _
 have lm:=aM hm;refine aS (vs:=[.ptr (B+3) 0 0 1,.ptr (B+1) 0 0 1]) (by simp[dm]) ?_;refine⟨B+3,B,B+1,B+2,(fun l=>l=B+1),(fun l=>l=B\/l=m\/l=B+2),rfl,?_,by omega,by omega,fun _=>Iff.rfl,kS⟩;have k:gA es B m (B+1) (B+2) false (fun l=>l=B+1) (fun l=>l=B\/l=m\/l=B+2) U:=⟨b0,⟨bs,ck,bm⟩,b1,b2,fun _=>Iff.rfl,fun _=>Iff.rfl⟩;exact⟨b3,k,by omega,by omega,trivial⟩
def jU:List Ex->Int
 |[]=>0
 |x::l=>if(Pa.ex x).err ar≠0 then(Pa.ex x).err ar else jU l
def fX(l:List Bz)(xs:List Ex):Int:=if l.length≠xs.length\/(fj l fun s=>!ar s)=true then 1 else if ¬l.Nodup then 6 else jU xs
def QL(l:List Bz)(xs:List Ex)(S:St)(r:V)(U:St):Prop:=Kp (fun _=>False) S U/\((fX l xs≠0/\r=.aH [.cG,.int .i64 (fX l xs)])\/(fX l xs=0/\∃m bs ck,S.length<=m/\r=.aH [.map m,.int .i64 0]/\(fu bs ck/\bs.length=(l.zip xs).length)/\U[m]?=some (.map ((l.zip xs).map jQ) bs ck)))
def qkq(x:Bz)(S:St):Fn prog 139 [.str x] S (.bool (!ar x)):=by
 refine au.ib Oz ?_;simp[Oz];refine aG (DR x S) ?_;simp;exact aS rfl ⟨rfl,rfl⟩
def Lh{x:Bz}:∀{es:List Ae},cw es x=none↔x∉es.map (·.1)
 |[]=>by simp[cw]
 |e::es=>by
  simp only[cw,b9,cX,not_or];by_cases h:e.1=x
  .rw[ai h];simp[h.symm]
  .rw[aj h,Lh (es:=es)];exact⟨fun g=>⟨fun hh=>h hh.symm,g⟩,fun g=>g.2⟩
def qgO{S:St}{m:Nat}{t:List Ae}{bs:List Nat}{ck:Nat}(x:Bz)(y:Ex)(h:S[m]?=some (.map (t.map jQ) bs ck))(hx:cw t x=none):
  kE S .str (.map m) (.str x) y.v=some (S.set m (.map ((t++[(x,y)]).map jQ) (bs++[ck]) (ck+1))):=by
 obtain⟨j,hj⟩:=Ls x t 0;unfold kE;rw[ai (by rfl)];simp only[h,hj,hx,cy];rfl
def ZM(b b':Bool)(l:List Bz)(xs:List Ex)(hl:l.length<=1000)(hx:xs.length<=1000)(ox:∀x,x∈xs->x.ok)(S:St):
  au prog 87 [.sl b (l.map .str),.sl b' (xs.map Ex.v)] S (QL l xs S):=by
 refine au.ib Qw ?_;have bad:∀(e:Int) (U:St) (ev:af),fX l xs=e->e≠0->Kp (fun _=>False) S U->ev.get 4=some .cG->ev.get 5=some (.int .i64 e)->eH [.t 4,.t 5] S.length (QL l xs S) .ret ev U:=fun e U ev he h0 hk g4 g5=>
  aS (vs:=[.cG,.int .i64 e]) (by simp[dm,g4,g5]) ⟨hk,.inl ⟨by rw[he];exact h0,by rw[he];rfl⟩⟩
 have hpr:fX l xs=if l.length≠xs.length\/(fj l fun s=>!ar s)=true then 1 else if ¬l.Nodup then 6 else jU xs:=rfl
 simp only[Qw,eZ];refine dE (fun e U=>U=S/\e.get 0=some (.sl b (l.map .str))/\e.get 1=some (.sl b' (xs.map Ex.v))) (by simp[iF]) ?_;rintro e U ⟨rfl,g0,g1⟩;refine dE (fun e U'=>Kp (fun _=>False) U U'/\(l.length=xs.length/\(fj l fun s=>!ar s)=false)/\e.get 0=some (.sl b (l.map .str))/\e.get 1=some (.sl b' (xs.map Ex.v))) ?_ ?_
 .simp[g0,g1];by_cases hn:l.length=xs.length
  .simp[hn,g0];refine aU (Zn b l (by unfold aR;omega) 139 [] (fun s=>!ar s) U fun x _ V _=>au.mono (qkq x V) fun v V' ⟨a,c⟩=>⟨a,by rw[c];exact Kp.refl _ _⟩) ?_;rintro v U2 ⟨rfl,hk⟩
   cases hq:fj l fun s=>!ar s with
   |true=>
    rw[ai (.inr hq)]at hpr;simp;refine bad 1 _ _ hpr (by decide) hk ?_ ?_<;>simp
   |false=>
    simp;exact⟨hk,by simp[g0],by simp[g1]⟩
  .rw[ai (.inl hn)]at hpr;have hn':¬(l.length:Int)=xs.length:=by omega
   simp[hn'];refine bad 1 _ _ hpr (by decide) (Kp.refl _ _) ?_ ?_<;>simp
 clear g0 g1 e;rintro e U' ⟨hk,⟨hn,hq⟩,g0,g1⟩;rw[aj (by rw[hq];simp[hn])]at hpr;refine dE (fun e U2=>Kp (fun _=>False) U U2/\(∃m,U.length<=m/\e.get 6=some (.map m)/\U2[m]?=some (.map [] [] 0))/\e.get 0=some (.sl b (l.map .str))/\e.get 1=some (.sl b' (xs.map Ex.v))) ?_ ?_
 .simp[aZ,g0,g1];exact⟨hk.push _,_,hk.len,rfl,by simp⟩
 clear g0 g1 e;rintro e U2 ⟨hk2,⟨m,hm,g6,bm⟩,g0,g1⟩;refine dE (fun e U3=>Kp (fun _=>False) U U3/\l.Nodup/\(∃bs ck,(fu bs ck/\bs.length=(l.zip xs).length)/\U3[m]?=some (.map ((l.zip xs).map jQ) bs ck))/\e.get 6=some (.map m)/\e.get 1=some (.sl b' (xs.map Ex.v))) ?_ ?_
 .simp[g0];refine du (fun e U3=>Kp (fun _=>False) U U3/\l.Nodup/\(∃bs ck,(fu bs ck/\bs.length=(l.zip xs).length)/\U3[m]?=some (.map ((l.zip xs).map jQ) bs ck))/\e.get 6=some (.map m)/\e.get 1=some (.sl b' (xs.map Ex.v))) ?_ ?_
  ·refine bN (fun j e X=>∃i:Nat,j=l.length - i∧i≤l.length∧(l.take i).Nodup∧Kp (fun _=>False) U X∧(∃bs ck,(fu bs ck∧bs.length=i)∧X[m]?=some (.map (((l.zip xs).take i).map jQ) bs ck))∧
    e=[(26,.int .i64 i),(25,.int .i64 l.length),(24,.sl b (l.map .str)),(6,.map m),(1,.sl b' (xs.map Ex.v))]) l.length _ ?_ ⟨0,by simp,by omega,by simp,hk2,⟨[],0,⟨fu.nil,rfl⟩,by simpa using bm⟩,rfl⟩ ?_
   .repeat' first|exact af.fh _|refine af.dV (by simp[g0,g1,g6]) ?_
   clear g0 g1 g6 e;rintro j e X ⟨i,rfl,hi,nd,kX,⟨bs,ck,hst,mX⟩,rfl⟩;by_cases h:i<l.length
   .have hlk:=Ll (es:=(l.zip xs).take i) (bs:=bs) (ck:=ck) l[i] mX;have hi2:i<xs.length:=by omega
    have UG:((l.zip xs).take i).map (·.1)=l.take i:=by
     rw[vN,List.map_fst_zip oM]
    cases hy:cw ((l.zip xs).take i) l[i] with
    |some y=>
     rw[hy]at hlk
     have hdup:¬l.Nodup:=fun hd=>by
      have h1:¬cw ((l.zip xs).take i) l[i]=none:=by rw[hy];simp
      rw[Lh,UG,Classical.not_not]at h1;have h2:=vQ.1 ((lA i l).symm ▸ hd);exact h2.2.2 _ h1 _ (dc (i:=0) (by rw[kh];simp[h])) rfl
     rw[ai hdup]at hpr;have hE:nQ ((l.zip xs).take i) l[i]=y.v:=by unfold nQ;rw[hy]
     rw[hE]at hlk;have hn:V.upd (.agg [.int .i64 0,.int .i64 0,.int .i64 0,.int .i64 0,.int .i64 0,.str ⟨⟨[]⟩⟩,.sl true []]) 0 7 y.v=some y.v:=by rw[aE];simp
     simp[h,jb,aZ,hlk,aC,aA,hn];refine bad 6 _ _ hpr (by decide) (kX.push _) ?_ ?_<;>simp
    |none=>
     rw[hy]at hlk;have hE:nQ ((l.zip xs).take i) l[i]=eD:=by unfold nQ;rw[hy]
     rw[hE]at hlk;unfold eD at hlk;have hn:V.upd (.agg [.int .i64 0,.int .i64 0,.int .i64 0,.int .i64 0,.int .i64 0,.str ⟨⟨[]⟩⟩,.sl true []]) 0 7 (.agg [.int .i64 0,.int .i64 0,.int .i64 0,.int .i64 0,.int .i64 0,.str ⟨⟨[]⟩⟩,.sl true []])=some (.agg [.int .i64 0,.int .i64 0,.int .i64 0,.int .i64 0,.int .i64 0,.str ⟨⟨[]⟩⟩,.sl true []]):=rfl;have Vu:(X++[.arr [.agg [.int .i64 0,.int .i64 0,.int .i64 0,.int .i64 0,.int .i64 0,.str ⟨⟨[]⟩⟩,.sl true []]] 7 1])[m]?=some (.map (((l.zip xs).take i).map jQ) bs ck):=gp mX;have hmu:=qgO l[i] xs[i] Vu hy;simp[h,jb,aZ,hlk,aC,aA,hn,mP hi2,ae,hmu];have KW:Kp (fun _=>False) U ((X++[Ob.arr [.agg [.int .i64 0,.int .i64 0,.int .i64 0,.int .i64 0,.int .i64 0,.str ⟨⟨[]⟩⟩,.sl true []]] 7 1]).set m (.map (((l.zip xs).take i++[(l[i],xs[i])]).map jQ) (bs++[ck]) (ck+1))):=(kX.push _).set _ (.inr hm)
     have htk:(l.zip xs).take (i+1)=(l.zip xs).take i++[(l[i],xs[i])]:=by
      rw[cY,bI (by simp;omega)];simp
     refine⟨_,?_,_,?_,i+1,rfl,by omega,?_,by simpa[vN]using KW,⟨bs++[ck],ck+1,⟨hst.1.snoc,by simp[hst.2]⟩,?_⟩,rfl⟩
     .omega
     .rw[dP oM oM];exact aN
     .rw[cY,bI h,gZ];rw[Lh,UG]at hy;refine vQ.2 ⟨nd,by simp,fun a ha c hc hh=>hy ?_⟩;simp at hc;rw[<-hc,<-hh];exact ha
     .rw[bJ (aM Vu),<-vN,<-vN,htk,cy];rfl
   .have hil:i=l.length:=by omega
    rw[iP oM]at nd;rw[iP (by rw[List.length_zip];omega)]at mX;simp[h];exact⟨kX,nd,bs,ck,⟨hst.1,by rw[hst.2];omega⟩,mX⟩
  .rintro e X ⟨a,b,c,d,e⟩;exact⟨a,b,by simpa using c,d,e⟩
 clear g0 g1 g6 e;rintro e U3 ⟨hk3,nd,⟨bs,ck,hst,m3⟩,g6,g1⟩;rw[aj (by simpa using nd)]at hpr;refine dE (fun e U4=>Kp (fun _=>False) U3 U4/\jU xs=0/\e.get 6=some (.map m)) ?_ ?_
 .simp[g1];refine du (fun e U4=>Kp (fun _=>False) U3 U4/\jU xs=0/\e.get 6=some (.map m)) ?_ ?_
  ·refine bN (fun j e X=>∃i:Nat,j=xs.length - i∧i≤xs.length∧jU xs=jU (xs.drop i)∧Kp (fun _=>False) U3 X∧
    e=[(47,.int .i64 i),(46,.int .i64 xs.length),(45,.sl b' (xs.map Ex.v)),(6,.map m)]) xs.length _ ?_ ⟨0,by simp,by omega,by simp,Kp.refl _ _,rfl⟩ ?_
   .repeat' first|exact af.fh _|refine af.dV (by simp[g1,g6]) ?_
   clear g1 g6 e;rintro j e X ⟨i,rfl,hi,pX,kX,rfl⟩;by_cases h:i<xs.length
   .have hn:V.upd (.agg [.int .i64 0,.int .i64 0,.int .i64 0,.int .i64 0,.int .i64 0,.str ⟨⟨[]⟩⟩,.sl true []]) 0 7 xs[i].v=some xs[i].v:=by rw[aE];simp
    simp[h,mP h,ae,aC,aA,hn];refine aG (Nb xs[i] (ox _ (cI h)) _) ?_;rw[rF h,jU]at pX;by_cases he:(Pa.ex xs[i]).err ar=0
    .rw[aj (by simpa using he)]at pX;simp[he];refine⟨_,?_,_,?_,i+1,rfl,by omega,pX,kX.push _,rfl⟩
     .omega
     .rw[dP oM oM];exact aN
    .rw[ai he]at pX;simp[he];refine bad _ _ _ (hpr.trans pX) he (hk3.trans (kX.push _)) ?_ ?_<;>simp
   .rw[List.drop_of_length_le oM]at pX;simp[h];exact⟨kX,pX⟩
  .rintro e X ⟨a,b,c⟩;simp[a,b,c]
 clear g1 g6 e;rintro e U4 ⟨hk4,he,g6⟩;simp[g6];refine aS (vs:=[.map m,.int .i64 0]) (by simp[dm]) ⟨hk3.trans hk4,.inr ⟨hpr.trans he,m,bs,ck,hm,rfl,hst,?_⟩⟩;exact hk4.at m3 id
set_option maxHeartbeats 0
set_option maxRecDepth 100000
noncomputable def C4:=aI func4
noncomputable def Ql:=aI func67
noncomputable def Qz:=aI func92
noncomputable def Oq:=aI func117
noncomputable def OA:=aI func143
noncomputable def OB:=aI func144
noncomputable def OC:=aI func145
noncomputable def OP:=aI func161
noncomputable def OQ:=aI func162
noncomputable def OS:=aI func163
noncomputable def OY:=aI func175
noncomputable def OZ:=aI func176
noncomputable def Ph:=aI func194
noncomputable def PR:=aI func230
noncomputable def PS:=aI func231
noncomputable def PT:=aI func232
def Rd(v:V)(l:List Bz)(S:St):Prop:=oY v=some (.int .i64 l.length)/\∀(i:Nat) (h:i<l.length),∃p,eJ S 1 v i=some p/\ae S p none=some (.str l[i])
def Rd.sl(b:Bool)(l:List Bz)(S:St):Rd (.sl b (l.map .str)) l S:=⟨by simp[oY],fun i h=>⟨_,jb h b S,by simp[ae]⟩⟩
def Rd.arr{lo wr:Nat}{l:List Bz}{S:St}(h:S[lo]?=some (.arr (l.map .str) 1 wr))(hw:wr<=l.length):Rd (.arr lo 0 l.length l.length) l S:=
 ⟨rfl,fun i hi=>⟨.ptr lo i 0 l.length,by simp[eJ,h,hw,hi],by simp[ae,h,hw,hi]⟩⟩
def HE(v:V)(l:List Bz)(s:Bz)(S:St)(hl:l.length<=1000000)(hr:Rd v l S):Fn prog 34 [v,.str s] S (.bool (eN s l)):=by
 obtain ⟨hlen,hrd⟩:=hr;refine au.ib Ep ?_;simp[Ep];refine bN (fun n e S'=>∃i:Nat,n=l.length - i∧i≤l.length∧(∀j,(h:j<l.length)→j<i→l[j]≠s)∧S'=S∧
  e=[(5,.int .i64 i),(4,.bool false),(0,v),(1,.str s)]) l.length _ ?_ ⟨0,by simp,by omega,by omega,rfl,rfl⟩ ?_
 .exact aN
 rintro n e S' ⟨i,rfl,hi,hno,rfl,rfl⟩;by_cases h:i<l.length
 .obtain⟨p,hp1,hp2⟩:=hrd i h;by_cases he:l[i]=s
  .rw[he]at hp2;simp[↓iU,hlen,h,hp1,hp2];exact aS rfl ⟨by rw[jv.2 (by rw[<-he];exact cI h)];rfl,rfl⟩
  .simp[↓iU,hlen,h,hp1,hp2,he,bP i];refine⟨_,?_,_,?_,i+1,rfl,by omega,fun j hj hji=>?_,rfl⟩
   .omega
   .exact aN
   .by_cases hj':j=i
    .subst hj';exact he
    .exact hno j hj oM
 .simp[↓iU,hlen,h];refine aS rfl ⟨?_,rfl⟩;rw[se.2]
  .rfl
  intro hs;obtain⟨j,hj,rfl⟩:=pH hs;exact hno j hj oM rfl
def cz(e:Bz×Nat):V:=.agg [.str e.1,.int .i64 e.2]
theorem qbE(e:Bz×Nat):(cz e).size=2:=rfl
def KI{l:bw}{i:Nat}(h:i<l.length)(b:Bool)(S:St):eJ S 2 (.sl b (l.map cz)) i=some (.bG (cz l[i]) 0):=wQ (f:=cz) qbE h b S
def wW(l:bw)(x:Bz):Option Nat:=bw.at l.reverse x
def Df(l:bw)(x:Bz):V:=.int .i64 (match wW l x with|some k=>(k:Int)|none=>-1)
def IW{l:bw}{x:Bz}:bw.at l x=none↔∀e,e∈l->e.1≠x:=by
 unfold bw.at;simp[vI]
def Zv(l:bw)(b:Bool)(x:Bz)(hl:l.length<=1000000)(S:St):Fn prog 175 [.sl b (l.map cz),.str x] S (Df l x):=by
 refine au.ib OY ?_;simp[OY,dP (n:=(l.length:Int)-1) oM oM];refine du (fun e U=>wW l x=none/\U=S) ?_ ?_
 ·refine bN (fun k e U=>k≤l.length∧(∀i,(h:i<l.length)→k≤i→l[i].1≠x)∧U=S∧
   e=[(5,.int .i64 ((k:Int)-1)),(0,.sl b (l.map cz)),(1,.str x)]) l.length _ ?_ ⟨cq _,by omega,rfl,rfl⟩ ?_
  .exact aN
  rintro k e U ⟨hk,hno,rfl,rfl⟩;by_cases h0:k=0
  .subst h0;simp;unfold wW;rw[IW];intro e he;obtain⟨i,hi,rfl⟩:=pH (List.mem_reverse.1 he);exact hno i hi (eL _)
  .obtain⟨m,rfl⟩:∃m,k=m+1:=⟨k-1,by omega⟩;have hm:m<l.length:=by omega
   have e1:((m+1:Nat):Int)-1=m:=by omega
   rw[e1];have hg:(0:Int)<=m:=by omega
   by_cases hx:l[m].1=x
   .simp[hg,KI hm,cz,ae,hx,xy];refine aS rfl ⟨?_,rfl⟩;unfold Df
    have:wW l x=some l[m].2:=by
     unfold wW bw.at;have hs:l=l.take m++(l[m]::l.drop (m+1)):=by rw[<-rF hm,lA]
     conv=>lhs;rw[hs]
     rw[List.reverse_append,EI,qB,qB]
     have hn:(l.drop (m+1)).reverse.find? (fun p=>decide (p.1=x))=none:=by
      rw[vI];intro e he;obtain⟨i,hi,rfl⟩:=pH (List.mem_reverse.1 he);rw[List.getElem_drop];simp only[List.length_drop]at hi;have:=hno (m+1+i) oM oM;simpa using this
     rw[hn];simp[hx]
    rw[this];rfl
   .simp[hg,KI hm,cz,ae,hx,dP (n:=(m:Int)-1) oM oM];refine⟨m,by omega,_,?_,by omega,fun i hi hmi=>?_,rfl⟩
    .exact aN
    .by_cases hj':m=i
     .subst hj';exact hx
     .exact hno i hi oM
 rintro e U ⟨hn,rfl⟩;simp;refine aS rfl ⟨?_,rfl⟩;unfold Df;rw[hn];rfl
def BA(s:Bz)(taken:List Bz)(ht:taken.length<=899):∃n,1<=n/\n<=999/\fF s n∉taken/\∀i,1<=i->i<n->fF s i∈taken:=by
 have h1:¬∀i,i<900->fF s (100+i)∈taken:=fun h=>by
  have:=LZ taken 900 (fun i=>fF s (100+i)) (fun i j hi hj he=>qbM hi hj he) h;omega
 have h2:∃n,1<=n/\n<=999/\fF s n∉taken:=by
  apply Classical.byContradiction;intro hn;exact h1 fun i hi=>Classical.byContradiction fun hc=>hn ⟨100+i,by omega,by omega,hc⟩
 obtain⟨n,h1,h2,h3⟩:=h2
 induction n using Nat.strongRecOn with
 |ind n ih=>
  by_cases hm:∃m,1<=m/\m<n/\fF s m∉taken
  .obtain⟨m,a,b,c⟩:=hm;exact ih m b a oM c
  .exact⟨n,h1,h2,h3,fun i hi hl=>Classical.byContradiction fun hc=>hm ⟨i,hi,hl,hc⟩⟩
def gg.exists(s:Bz)(taken:List Bz)(ht:taken.length<=899):∃t,gg s taken t:=by
 by_cases hs:s∈taken
 .obtain⟨n,h1,_,h2,h3⟩:=BA s taken ht;exact⟨_,.inr ⟨hs,n,h1,rfl,h2,h3⟩⟩
 .exact⟨s,.inl ⟨hs,rfl⟩⟩
def qls(v:V)(s:Bz)(taken:List Bz)(S:St)(hr:Rd v taken S)(hs:s.size<=16)(ht:taken.length<=899):
  au prog 45 [.str s,v] S (fun v U=>(∃t,v=.str t/\gg s taken t)/\U=S):=by
 refine au.ib P7 ?_;simp[P7];refine aG (HE v taken s S oM hr) ?_
 cases hi:eN s taken with
 |false=>
  simp;exact aS rfl ⟨⟨s,rfl,.inl ⟨se.1 hi,rfl⟩⟩,rfl⟩
 |true=>
  obtain⟨N,hN1,hN2,hN3,JX⟩:=BA s taken ht;simp;refine bN (fun k e S'=>∃m:Nat,k=N-m/\1<=m/\m<=N/\S'=S/\e=[(5,.int .i64 m),(4,.str ⟨⟨[]⟩⟩),(0,.str s),(1,v)]) (N-1) _ ?_ ⟨1,rfl,by omega,hN1,rfl,rfl⟩ ?_
  .exact aN
  rintro k e S' ⟨m,rfl,hm1,hm2,rfl,rfl⟩;simp;refine aG (qlK m oM S') ?_;have hd:=FC m oM;simp[aZ,qU,ju];rw[HI,Vy _ _ hd,YZ oM];simp;rw[Ns (by rw[HI];simp;omega),RO];simp;refine aG (HE v taken (fF s m) S' oM hr) ?_
  cases hc:eN (fF s m) taken with
  |false=>
   simp;exact aS rfl ⟨⟨fF s m,rfl,.inr ⟨jv.1 hi,m,hm1,rfl,se.1 hc,fun i h1 h2=>JX i h1 oM⟩⟩,rfl⟩
  |true=>
   have hmN:m≠N:=fun hh=>hN3 (by rw[<-hh];exact jv.1 hc)
   simp;refine⟨_,?_,_,?_,m+1,rfl,by omega,by omega,rfl⟩
   .omega
   .rw[dP oM oM];exact aN
def qlF(s:Bz)(g:Nat)(cs:List V)(p:Bz->Bool)(taken:List Bz)(S:St)(hp:∀x,Fn prog g ([.str x]++cs) S (.bool (p x)))(hk:∀x,p x=true↔x∈taken)(hs:s.size<=16)(ht:taken.length<=899):
  au prog 77 [.str s,.fn (.func g) [] cs] S (fun v U=>(∃t,v=.str t/\gg s taken t)/\U=S):=by
 have nk:∀x,p x=false->x∉taken:=fun x h hh=>by
  rw[(hk x).2 hh]at h;cases h
 refine au.ib Qo ?_;simp[Qo];refine aG (hp s) ?_
 cases hi:p s with
 |false=>
  simp;exact aS rfl ⟨⟨s,rfl,.inl ⟨nk s hi,rfl⟩⟩,rfl⟩
 |true=>
  obtain⟨N,hN1,hN2,hN3,JX⟩:=BA s taken ht;simp;refine bN (fun k e S'=>∃m:Nat,k=N-m/\1<=m/\m<=N/\S'=S/\e=[(5,.int .i64 m),(4,.str ⟨⟨[]⟩⟩),(0,.str s),(1,.fn (.func g) [] cs)]) (N-1) _ ?_ ⟨1,rfl,by omega,hN1,rfl,rfl⟩ ?_
  .exact aN
  rintro k e S' ⟨m,rfl,hm1,hm2,rfl,rfl⟩;simp;refine aG (qkn m oM S') ?_;have hd:=FC m oM;simp[aZ,qU,ju];rw[HI,Vy _ _ hd,YZ oM];simp;rw[Ns (by rw[HI];simp;omega),RO];simp;refine aG (hp (fF s m)) ?_
  cases hc:p (fF s m) with
  |false=>
   simp;exact aS rfl ⟨⟨fF s m,rfl,.inr ⟨(hk _).1 hi,m,hm1,rfl,nk _ hc,fun i h1 h2=>JX i h1 oM⟩⟩,rfl⟩
  |true=>
   have hmN:m≠N:=fun hh=>hN3 (by rw[<-hh];exact(hk _).1 hc)
   simp;refine⟨_,?_,_,?_,m+1,rfl,by omega,by omega,rfl⟩
   .omega
   .rw[dP oM oM];exact aN
end Go.Proofs.YtbifpocccfkhhaaGreatDoor


namespace Go.Proofs.YtbifpocccfkhhaaGreatDoor
open Go
def sJ(ks:List Bz):List Bz:=((ks.map fun k=>k.data.toList).mergeSort fun x y=>decide (x<=y)).map fun l=>⟨l.toArray⟩
def Zd(ks:List Bz):(sJ ks).length=ks.length:=by unfold sJ;simp
def RY(h:bg.H)(sc:ag)(t:Bz):(dp (bg.lC h t sc)).length<=(dp h).length+1:=by
 show(Prod.fst (jS h t sc)).length<=_;unfold jS dp;cases sc.at t<;>simp
mutual
theorem Ex.wF(sc:ag)(tg:Bool):∀(x:Ex) (h:bg.H),(dp (Ex.hs bg sc tg h x)).length<=(dp h).length+(Pa.ex x).size
 |.mk k o n m e t a,h=>by
  have ha:=Ex.kx sc false a h;have hz:=Pa.size_eq (.ex (.mk k o n m e t a));simp only[Pa.own,Pa.kids,Ex.args]at hz;have hc:=RY (Ex.hsl bg sc false h a) sc t;rw[Ex.hs,R2];split<;>omega
theorem Ex.kx(sc:ag)(tg:Bool):∀(l:List Ex) (h:bg.H),(dp (Ex.hsl bg sc tg h l)).length<=(dp h).length+aY (l.map Pa.ex)
 |[],h=>by simp[Ex.hsl]
 |x::l,h=>by
  have h1:=Ex.wF sc tg x h;have h2:=Ex.kx sc tg l (Ex.hs bg sc tg h x);rw[Ex.hsl,b9,fq];omega
end
def El.kx(sc:ag):∀(l:List El) (h:bg.H),(dp (El.hsl bg sc h l)).length<=(dp h).length+aY (l.map Pa.el)
 |[],h=>by simp[El.hsl]
 |x::l,h=>by
  have h1:=Ex.kx sc false x.ak h;have h2:=El.kx sc l (Ex.hsl bg sc false h x.ak);have hz:=Pa.size_eq (.el x);simp only[Pa.kids]at hz;show(dp (El.hsl bg sc (Ex.hsl bg sc false h x.ak) l)).length<=_;rw[b9,fq];omega
mutual
theorem Sm.wF:∀(s:Sm) (sc:ag) (n:Nat) (h:bg.H),(dp (Sm.hs bg sc n h s)).length<=(dp h).length+(Pa.st s).size
 |.mk l k t g e el d b,sc,n,h=>by
  have hz:=Sm.xP (.mk l k t g e el d b);simp only[Sm.labels,Sm.targets,Sm.ak,Sm.elems,Sm.decls,Sm.body]at hz;have e1:=Ex.kx sc true g h;rw[Sm.hs];split
  .have e2:=De.kx d (ah (bM d b) n::sc) sc (n+(ah (bM d b) n).length) (enters bg (Ex.hsl bg sc true h g) (ah (bM d b) n));have e3:=Sm.kx b (ah (bM d b) n::sc) (n+(ah (bM d b) n).length+De.aJ d) (De.hsl bg (ah (bM d b) n::sc) sc (n+(ah (bM d b) n).length) (enters bg (Ex.hsl bg sc true h g) (ah (bM d b) n)) d);rw[qJ]at e2;omega
  .split
   .have e3:=Sm.kx b (ah (bq b) n::sc) (n+(ah (bq b) n).length) (enters bg (Ex.hsl bg sc true h g) (ah (bq b) n));rw[qJ]at e3;omega
   .have e2:=Ex.kx sc false e (Ex.hsl bg sc true h g);have e3:=El.kx sc el (Ex.hsl bg sc false (Ex.hsl bg sc true h g) e);have e4:=Sm.JP b sc n (El.hsl bg sc (Ex.hsl bg sc false (Ex.hsl bg sc true h g) e) el);have hc:=RY (Sm.hs1 bg sc n (El.hsl bg sc (Ex.hsl bg sc false (Ex.hsl bg sc true h g) e) el) b) sc t;rw[RZ];split<;>omega
theorem De.wF:∀(s:De) (own sc:ag) (n:Nat) (h:bg.H),(dp (De.hs bg own sc n h s)).length<=(dp h).length+(Pa.de s).size
 |.mk k o t ns e fo b,own,sc,n,h=>by
  have hz:=De.xP (.mk k o t ns e fo b);simp only[De.names,De.aB,De.ak,De.body]at hz;rw[De.hs];split
  .have e1:=Ex.kx own false e h;have e2:=Sm.JP b (ah (fo.map Fo.name) n::own) (n+(ah (fo.map Fo.name) n).length) (enters bg (Ex.hsl bg own false h e) (ah (fo.map Fo.name) n));rw[qJ]at e2;omega
  .have e1:=Ex.kx (if k=2 then sc else own) false e h;omega
theorem De.kx:∀(l:List De) (own sc:ag) (n:Nat) (h:bg.H),(dp (De.hsl bg own sc n h l)).length<=(dp h).length+aY (l.map Pa.de)
 |[],_,_,_,h=>by simp[De.hsl]
 |x::l,own,sc,n,h=>by
  have h1:=De.wF x own sc n h;have h2:=De.kx l own sc (n+De.nb x) (De.hs bg own sc n h x);rw[De.hsl,b9,fq];omega
theorem Sm.kx:∀(l:List Sm) (sc:ag) (n:Nat) (h:bg.H),(dp (Sm.hsl bg sc n h l)).length<=(dp h).length+aY (l.map Pa.st)
 |[],_,_,h=>by simp[Sm.hsl]
 |x::l,sc,n,h=>by
  have h1:=Sm.wF x sc n h;have h2:=Sm.kx l sc (n+Sm.nb x) (Sm.hs bg sc n h x);rw[Sm.hsl,b9,fq];omega
theorem Sm.JP:∀(l:List Sm) (sc:ag) (n:Nat) (h:bg.H),(dp (Sm.hs1 bg sc n h l)).length<=(dp h).length+aY (l.map Pa.st)
 |[],_,_,h=>by simp[Sm.hs1]
 |x::l,sc,n,h=>by
  have h1:=Sm.wF x (ah x.labels n::sc) (n+(ah x.labels n).length) (enters bg h (ah x.labels n));have h2:=Sm.JP l sc (n+(ah x.labels n).length+Sm.nb x) (Sm.hs bg (ah x.labels n::sc) (n+(ah x.labels n).length) (enters bg h (ah x.labels n)) x);rw[qJ]at h1;rw[Sm.hs1,b9,fq];omega
end
def Sm.qem(s:Sm):(dp (s.kP bg nC)).length<=(Pa.st s).size:=by
 have:=Sm.wF s [ah s.labels 0] (ah s.labels 0).length (enters bg nC (ah s.labels 0));rw[qJ]at this;have h0:(dp nC).length=0:=rfl;show(dp (Sm.hs bg [ah s.labels 0] (ah s.labels 0).length (enters bg nC (ah s.labels 0)) s)).length<=_;omega
def Gu:∀{l ks:List Bz},ks.Nodup->(l.foldl dQ ks).Nodup
 |[],ks,h=>h
 |s::l,ks,h=>by
  refine Gu (l:=l) ?_;unfold dQ;split
  .exact h
  .rename_i hs;exact vQ.2 ⟨h,by simp,fun a ha b hb=>by simp at hb;subst hb;rintro rfl;exact hs (jv.2 ha)⟩
def zb:∀{l ks:List Bz},(l.foldl dQ ks).length<=ks.length+l.length
 |[],ks=>by simp
 |s::l,ks=>by
  have:=zb (l:=l) (ks:=dQ ks s);have h2:(dQ ks s).length<=ks.length+1:=by unfold dQ;split<;>simp
  rw[vJ,eE];omega
def Sm.frees(s:Sm):List Bz:=sJ ((dp (s.kP bg nC)).foldl dQ [])
def Co.at{m c4 c5 c6:Nat}{h:List Bz×List Bz}{v:V}{ps:List Nat}{F D:Np}{U:St}(k:Co m c4 c5 c6 h v ps F D U){i:Nat}(hi:i<h.2.length):
  ∃p l st,eJ U 1 v (i:Int)=some (.ptr l i 0 st)/\ae U (.ptr l i 0 st) none=some (.ptr p 0 0 1)/\U[p]?=some (dZ h.2[i] i h.2[i]):=by
 have BS:i<ps.length:=by rw[k.pn];exact hi
 obtain⟨_,hp⟩:=k.pl i ps[i] h.2[i] (bI BS) (bI hi);rcases k.gr with ⟨h0,_⟩|⟨a,wr,rfl,ha,hw,_,_⟩
 .rw[h0]at BS;simp at BS
 .refine⟨ps[i],a,ps.length,?_,?_,hp⟩
  .simp only[eJ,ha];rw[ai ⟨hw,trivial,by omega,by omega⟩];simp
  .simp only[ae,ha];rw[ai ⟨hw,BS⟩];simp[BS]
def Co.oY{m c4 c5 c6:Nat}{h:List Bz×List Bz}{v:V}{ps:List Nat}{F D:Np}{U:St}(k:Co m c4 c5 c6 h v ps F D U):oY v=some (.int .i64 h.2.length):=by
 have:=k.pn;rcases k.gr with ⟨rfl,rfl⟩|⟨a,wr,rfl,_⟩
 .rw[<-this];rfl
 .rw[<-this];rfl
def ki(e:Bz×Int):V×V:=(.str e.1,.int .i64 e.2)
def nB:List (Bz×Int)->Bz->Int
 |[],_=>0
 |(k,v)::r,s=>if s=k then v else nB r s
def sA:List (Bz×Int)->Bz->Int->List (Bz×Int)
 |[],s,n=>[(s,n)]
 |(k,v)::r,s,n=>if s=k then(k,n)::r else(k,v)::sA r s n
def RS(s:Bz)(n:Int)(x:Bz):∀ms,nB (sA ms s n) x=if x=s then n else nB ms x
 |[]=>by simp[sA,nB]
 |(k,v)::r=>by
  unfold sA;by_cases h:s=k
  .subst h;rw[ai rfl,nB,nB];split<;>rfl
  .rw[aj h,nB,nB,RS s n x r];by_cases hx:x=k
   .subst hx;rw[ai rfl,ai rfl,aj (Ne.symm h)]
   .rw[aj hx,aj hx]
def Lu(s:Bz)(n:Int):∀(ms:List (Bz×Int)) (i:Nat),(jF .str (.str s) (ms.map ki) i=some none/\nB ms s=0/\sA ms s n=ms++[(s,n)])\/∃(j:Nat) (v:Int),jF .str (.str s) (ms.map ki) i=some (some (i+j,.int .i64 v))/\nB ms s=v/\sA ms s n=ms.set j (s,n)/\j<ms.length
 |[],i=>.inl ⟨rfl,rfl,rfl⟩
 |(k,v)::r,i=>by
  simp only[b9,ki,jF,nN];by_cases h:s=k
  .subst h;refine .inr ⟨0,v,?_,?_,?_,by simp⟩
   .simp
   .rw[nB,ai rfl]
   .rw[sA,ai rfl];rfl
  .have hne:(s.data.toList==k.data.toList)=false:=by
    rw[beq_eq_false_iff_ne];intro hh;exact h (pE (qz hh))
   rw[hne];simp only;rw[nB,aj h,sA,aj h];rcases Lu s n r (i+1) with ⟨h1,h2,h3⟩|⟨j,w,h1,h2,h3,h4⟩
   .exact .inl ⟨h1,h2,by rw[h3];rfl⟩
   .refine .inr ⟨j+1,w,?_,h2,by rw[h3];rfl,by simpa using h4⟩;rw[show i+(j+1)=i+1+j by omega];exact h1
def Cm(c:Bz->Int)(l:Nat)(S:St):Prop:=∃ms bs ck,S[l]?=some (.map (ms.map ki) bs ck)/\∀x,nB ms x=c x
def Cm.get{c:Bz->Int}{l:Nat}{S:St}(h:Cm c l S)(s:Bz):mA S .str (.int .i64 0) false (.map l) (.str s)=some (.int .i64 (c s)):=by
 obtain⟨ms,bs,ck,h,hc⟩:=h;unfold mA;rw[ai (by rfl)];simp only[uk,h];rcases Lu s 0 ms 0 with ⟨h1,h2,_⟩|⟨j,v,h1,h2,_⟩
 .rw[h1,<-hc,h2];rfl
 .rw[h1,<-hc,h2];rfl
def Cm.put{c:Bz->Int}{l:Nat}{S:St}(h:Cm c l S)(s:Bz)(n:Int):∃es bs ck,kE S .str (.map l) (.str s) (.int .i64 n)=some (S.set l (.map es bs ck))/\∀S':St,S'[l]?=some (.map es bs ck)->Cm (fun x=>if x=s then n else c x) l S':=by
 obtain⟨ms,bs,ck,h,hc⟩:=h;have fin:∀(bs':List Nat) (gG:Nat) (S':St),S'[l]?=some (.map ((sA ms s n).map ki) bs' gG)->Cm (fun x=>if x=s then n else c x) l S':=fun bs' gG S' hS=>⟨_,bs',gG,hS,fun x=>by rw[RS,hc]⟩
 unfold kE;rw[ai (by rfl)];simp only[h];rcases Lu s n ms 0 with ⟨h1,h2,h3⟩|⟨j,v,h1,h2,h3,h4⟩
 .rw[h1];refine⟨_,bs++[ck],ck+1,rfl,fun S' hS=>fin (bs++[ck]) (ck+1) S' ?_⟩;rw[h3,cy];exact hS
 .rw[h1];refine⟨_,bs,ck,rfl,fun S' hS=>fin bs ck S' ?_⟩;rw[h3,List.map_set];simpa[ki]using hS
def Cm.keep{c:Bz->Int}{l:Nat}{S S':St}(h:Cm c l S)(hk:∀o,S[l]?=some o->S'[l]?=some o):Cm c l S':=by
 obtain⟨ms,bs,ck,h,hc⟩:=h;exact⟨ms,bs,ck,hk _ h,hc⟩
open Classical in
def LY(P:Bz->Prop)(x:Bz):Bz:=if h:∃t,P t then Classical.choose h else x
def pW(x:Bz)(all:List Bz):Bz:=LY (fun t=>gg x all t) x
def BH{x:Bz}{all:List Bz}{t:Bz}(h:gg x all t):pW x all=t:=by
 have he:∃t,gg x all t:=⟨t,h⟩;unfold pW LY;rw[dif_pos he];exact(Classical.choose_spec he).unique h
def qeo{x:Bz}{a b:List Bz}(h:∀y,y∈a↔y∈b):pW x a=pW x b:=by
 have:(fun t=>gg x a t)=fun t=>gg x b t:=by
  funext t;exact propext ⟨gg.same h,gg.same fun y=>(h y).symm⟩
 unfold pW;rw[this]
def gg.size_le{s:Bz}{taken:List Bz}{t:Bz}(h:gg s taken t)(hs:s.size<=16)(ht:taken.length<=899):t.size<=16:=by
 by_cases hm:s∈taken
 .obtain⟨n,h1,h2,h3,h4⟩:=BA s taken ht;rw[h.unique (.inr ⟨hm,n,h1,rfl,h3,h4⟩)];have hd:=FC n oM;unfold fF;simp only[ByteArray.size,AL,cJ,km];omega
 .rw[h.unique (.inl ⟨hm,rfl⟩)];exact hs
def dw:List Bz->Bz->Int
 |[],_=>0
 |y::l,x=>(if x=y then 1 else 0)+dw l x
def Jl(x:Bz)(m:List Bz):∀l,dw (l++m) x=dw l x+dw m x
 |[]=>by simp[dw]
 |y::l=>by rw[cP,dw,dw,Jl x m l];omega
def Bg(x:Bz):∀l,0<=dw l x/\dw l x<=l.length
 |[]=>by simp[dw]
 |y::l=>by
  have:=Bg x l;rw[dw,eE];split<;>omega
def RU(x:Bz):∀l,0<dw l x↔x∈l
 |[]=>by simp[dw]
 |y::l=>by
  have h1:=RU x l;have h2:=Bg x l;rw[dw,cX];by_cases h:x=y
  .rw[ai h];exact⟨fun _=>.inl h,fun _=>by omega⟩
  .rw[aj h];exact⟨fun hh=>.inr (h1.1 oM),fun hh=>by have:=h1.2 (hh.resolve_left h);omega⟩
def iC(tk fr done:List Bz)(x:Bz)(rest:List Bz):Bz:=if eN x tk=true then pW x (fr++(done++x::rest)++tk) else x
def fM(tk fr:List Bz):List Bz->List Bz->List Bz
 |done,[]=>done
 |done,x::rest=>fM tk fr (done++[iC tk fr done x rest]) rest
def IF(tk fr:List Bz):∀(rest done:List Bz),(fM tk fr done rest).length=done.length+rest.length
 |[],done=>by simp[fM]
 |x::rest,done=>by rw[fM,IF tk fr rest];simp;omega
def me(tk fr:List Bz):List Bz->List Bz->Nat->List Bz
 |done,_,0=>done
 |done,[],_+1=>done
 |done,x::rest,i+1=>me tk fr (done++[iC tk fr done x rest]) rest i
def IC(tk fr:List Bz):∀(rest done:List Bz),me tk fr done rest rest.length=fM tk fr done rest
 |[],done=>rfl
 |x::rest,done=>by rw[eE,me,fM,IC tk fr rest]
def ID(tk fr:List Bz):∀(rest done:List Bz) (i:Nat),i<=rest.length->(me tk fr done rest i).length=done.length+i
 |_,done,0,_=>by simp[me]
 |[],done,i+1,h=>by simp at h
 |x::rest,done,i+1,h=>by
  rw[me,ID tk fr rest _ i (by simpa using h)];simp;omega
def IE(tk fr:List Bz):∀(rest done:List Bz) (i:Nat) (h:i<rest.length),me tk fr done rest (i+1)=me tk fr done rest i++[iC tk fr (me tk fr done rest i) rest[i] (rest.drop (i+1))]
 |[],_,_,h=>by simp at h
 |x::rest,done,0,h=>by simp[me]
 |x::rest,done,i+1,h=>by
  rw[me,IE tk fr rest _ i (by simpa using h)];rfl
def lf(l:List Bz)(k:Nat):Bz:=(l[k]?).getD ⟨⟨[]⟩⟩
def qbf{tk fr done rest:List Bz}{x:Bz}(hx:x.size<=16)(hl:(fr++(done++x::rest)++tk).length<=899):(iC tk fr done x rest).size<=16:=by
 unfold iC;split
 .obtain⟨t,ht⟩:=gg.exists x _ hl;rw[BH ht];exact ht.size_le hx hl
 .exact hx
def Rt(tk fr:List Bz):∀(rest done:List Bz),(∀x,x∈done->x.size<=16)->(∀x,x∈rest->x.size<=16)->fr.length+done.length+rest.length+tk.length<=899->∀x,x∈fM tk fr done rest->x.size<=16
 |[],done,h,_,_=>by rw[fM];exact h
 |y::rest,done,h,g,hl=>by
  rw[fM];rw[eE]at hl;refine Rt tk fr rest _ (fun x hx=>?_) (fun x hx=>g x (mc _ hx)) (by simp;omega);rcases cC.1 hx with hx|hx
  .exact h x hx
  .simp at hx;subst hx;exact qbf (g y sM) (by simp;omega)
structure pF(w:Nat)(P:Np->Np->St->Prop):Prop where
 push:∀{F D S},P F D S->∀os,P F D (S++os)
 set:∀{F D S},P F D S->∀{l} (o:Ob),er w F D l->P F D (S.set l o)
 out:∀{F D S},P F D S->∀{l},S.length<=l->er w F D l
def Gw.A1{w:Nat}{P:Np->Np->St->Prop}(fm:pF w P){sz bytes:Nat}{F0 D0 F D:Np}{xs ys:List V}{v x:V}{S0 S:St}(h:Gw sz S0.length w F D xs v S)(k:P F D S)(s:Stp w F0 D0 S0 F D S)(hx:elems S x=some ys)(hy:fits sz ys=true)(hr:(xs.length+ys.length)*bytes<=2^47):
  ∃v' S',dY S sz bytes v x=some (v',S')/\Gw sz S0.length w F D (xs++ys) v' S'/\P F D S'/\Stp w F0 D0 S0 F D S'/\(∀l o,S[l]?=some o->(∀a b c,v≠.arr l a b c)->S'[l]?=some o)/\(∀l a b c,v'=.arr l a b c->v=.arr l 0 xs.length xs.length\/l=S.length):=by
 have hlen:=s.k.len;rcases h with ⟨rfl,rfl⟩|⟨l,wr,h1,h2,rfl,h3,h4⟩
 .cases ys with
  |nil=>
   refine⟨.sl true [],S,?_,.inl ⟨rfl,rfl⟩,k,s,fun _ _ h _=>h,fun l a b c hh=>by cases hh⟩;unfold dY;rw[hx];rfl
  |cons y ys=>
   refine⟨.arr S.length 0 (y::ys).length (y::ys).length,S++[.arr (y::ys) sz (y::ys).length],?_,.inr ⟨S.length,(y::ys).length,hlen,fm.out k bL,by simp,by simp,by simp⟩,fm.push k _,s.push _,fun l o h _=>gp h,fun l a b c hh=>by cases hh;exact .inr rfl⟩;unfold dY;rw[hx];have hc:true=true/\fits sz (y::ys)=true/\(([]:List V).all fun v=>v.size==sz)=true/\(([]:List V).length+(y::ys).length)*bytes<=2^47:=⟨rfl,hy,rfl,hr⟩;show(if(y::ys).isEmpty=true then _ else _)=_;rw[aj sM,ai hc];simp
 .have hc:0=0/\xs.length=xs.length/\xs.length=xs.length/\sz=sz/\fits sz ys=true/\(xs.length+ys.length)*bytes<=2^47:=⟨rfl,rfl,rfl,rfl,hy,hr⟩;have hlt:l<S.length:=(aT.1 h3).1;refine⟨.arr l 0 (xs.length+ys.length) (xs.length+ys.length),S.set l (.arr (xs++ys) sz wr),?_,.inr ⟨l,wr,h1,h2,by simp,by rw[bJ hlt],by simp;omega⟩,fm.set k _ h2,s.set _ h1,fun k o ho hne=>?_,fun l' a b c hh=>by cases hh;exact .inl rfl⟩
  .unfold dY;rw[hx];show(match S[l]? with|_=>_)=_;rw[h3];show(if _ then _ else _)=_;rw[ai hc]
  .rw[bC (by rintro rfl;exact hne _ _ _ rfl)];exact ho
def Gw.pQ{w:Nat}{P:Np->Np->St->Prop}(fm:pF w P){sz bytes:Nat}{F0 D0 F D:Np}{xs:List V}{y v:V}{S0 S:St}{b:Bool}(h:Gw sz S0.length w F D xs v S)(k:P F D S)(s:Stp w F0 D0 S0 F D S)(hy:fits sz [y]=true)(hr:(xs.length+1)*bytes<=2^47):
  ∃v' S',dY S sz bytes v (.sl b [y])=some (v',S')/\Gw sz S0.length w F D (xs++[y]) v' S'/\P F D S'/\Stp w F0 D0 S0 F D S'/\(∀l o,S[l]?=some o->(∀a b c,v≠.arr l a b c)->S'[l]?=some o)/\(∀l a b c,v'=.arr l a b c->v=.arr l 0 xs.length xs.length\/l=S.length):=
 h.A1 fm k s (mh S b [y]) hy hr
def Gw.qdX{w:Nat}{P:Np->Np->St->Prop}(fm:pF w P){sz:Nat}{F0 D0 F D:Np}{xs:List V}{v:V}{S0 U:St}(h:Gw sz S0.length w F D xs v U)(k:P F D U)(s:Stp w F0 D0 S0 F D U):
  ∃U',cK S0.length v U (.sl false (xs.map V.weak)) U'/\P F D U'/\Stp w F0 D0 S0 F D U':=by
 rcases h with ⟨rfl,rfl⟩|⟨l,wr,h1,h2,rfl,h3,h4⟩
 .exact⟨U,cK.weak (r:=.sl true []),k,s⟩
 .have g1:=cK.freeze (n:=S0.length) (l:=l) (off:=0) (len:=xs.length) (st:=xs.length) h3 h4 oM;simp only[tD,eR]at g1;have g2:cK S0.length (.sl false xs) (U.set l .dead) (V.sl false xs).weak (U.set l .dead):=cK.weak;simp only[V.weak,iM]at g2;exact⟨_,g1.trans g2,fm.set k _ h2,s.set _ h1⟩
def i7(w:Nat)(P':Np->Np->St->Prop)(F D:Np)(S:St)(x:V)(r:V)(U:St):Prop:=r=x/\∃F' D',P' F' D' U/\Stp w F D S F' D' U
def Bn{w:Nat}{P:Np->Np->St->Prop}(fm:pF w P){sz:Nat}{F0 D0 F D:Np}{xs:List V}{v:V}{S0 U:St}{rs:List RV}{e:af}(hv:dm e U rs=some [v])(h:Gw sz S0.length w F D xs v U)(k:P F D U)(s:Stp w F0 D0 S0 F D U){ys:List V}(hx:xs.map V.weak=ys):
  eH rs S0.length (fun r U=>i7 w P F0 D0 S0 (.sl false ys) r U) .ret e U:=by
 obtain⟨U',g,k',s'⟩:=h.qdX fm k s;exact⟨_,hv,_,U',g,by rw[hx],F,D,k',s'⟩
def EK(w sz:Nat)(F D:Np)(S:St)(len:Nat)(P:Nat->Np->Np->St->Prop)(xs:Nat->List V)(env:Nat->V->af)(j:Nat)(e:af)(U:St):Prop:=∃(i:Nat) (gv:V) (F' D':Np),j=len-i/\i<=len/\Gw sz S.length w F' D' (xs i) gv U/\P i F' D' U/\Stp w F D S F' D' U/\e=env i gv
def ER(w sz:Nat)(F D:Np)(S:St)(P:Np->Np->St->Prop)(reg:Nat)(xs:List V)(e:af)(U:St):Prop:=∃(gv:V) (F' D':Np),e.get reg=some gv/\Gw sz S.length w F' D' xs gv U/\P F' D' U/\Stp w F D S F' D' U
def Gs(w:Nat)(F:Np)(xs:List Bz)(v:V)(S:St):Prop:=(xs=[]/\v=.sl true [])\/∃l wr,F l/\l≠w/\v=.arr l 0 xs.length xs.length/\S[l]?=some (.arr (xs.map .str) 1 wr)/\wr<=xs.length
def Fr(D:Np)(fv:V)(fresh:List Bz)(S:St):Prop:=(∃b,fv=.sl b (fresh.map .str))\/∃l wr,D l/\fv=.arr l 0 fresh.length fresh.length/\S[l]?=some (.arr (fresh.map .str) 1 wr)/\wr<=fresh.length
def dK(r:Rp)(bf bt:Bool)(fv vb vf:V)(st:bp):Ob:=.arr [.agg [vb,vf,fv,.sl bf (r.mj.map .str),.sl bt (r.to.map Ex.v),.bool st.bad,.bool st.caught]] 7 1
structure Rk(r:Rp)(bf bt:Bool)(w:Nat)(fv:V)(bound:List Bz)(st:bp)(F D:Np)(S:St):Prop where
 wx:∃vb vf,S[w]?=some (dK r bf bt fv vb vf st)/\Gs w F bound vb S/\Gs w F st.free vf S/\∀l a b c,vb=.arr l a b c->∀a' b' c',vf≠.arr l a' b' c'
 fr:Fr D fv r.fresh S
 lt:∀l,F l\/D l->l<S.length
 nF:¬F w
 nD:¬D w
 di:∀l,F l->¬D l
 lw:w<S.length
def Gs.keep{w:Nat}{F:Np}{xs:List Bz}{v:V}{S U:St}(h:Gs w F xs v S)(hk:∀l o,F l->S[l]?=some o->U[l]?=some o):Gs w F xs v U:=by
 rcases h with h|⟨l,wr,h1,h2,h3,h4,h5⟩
 .exact .inl h
 .exact .inr ⟨l,wr,h1,h2,h3,hk l _ h1 h4,h5⟩
def Gs.flat{w:Nat}{F:Np}{xs:List Bz}{v:V}{S:St}(h:Gs w F xs v S):v.cells=[v]/\v.flat=true/\v.size=1/\oY v=some (.int .i64 xs.length):=by
 rcases h with ⟨rfl,rfl⟩|⟨l,wr,h1,h2,rfl,h4,h5⟩<;>exact⟨rfl,rfl,rfl,rfl⟩
def Fr.keep{D:Np}{xs:List Bz}{v:V}{S U:St}(h:Fr D v xs S)(hk:∀l o,D l->S[l]?=some o->U[l]?=some o):Fr D v xs U:=by
 rcases h with h|⟨l,wr,h1,h3,h4,h5⟩
 .exact .inl h
 .exact .inr ⟨l,wr,h1,h3,hk l _ h1 h4,h5⟩
def Fr.rd{D:Np}{xs:List Bz}{v:V}{S:St}(h:Fr D v xs S):Rd v xs S:=by
 rcases h with ⟨b,rfl⟩|⟨l,wr,h1,rfl,h4,h5⟩
 .exact Rd.sl b xs S
 .exact Rd.arr h4 h5
def Rk.jV(r:Rp)(bf bt:Bool)(w:Nat)(fv:V)(bound:List Bz)(st:bp):pF w (Rk r bf bt w fv bound st) where
 push {F D S} h os:=by
  have g:∀l o,S[l]?=some o->(S++os)[l]?=some o:=fun l o h=>by rw[b8 (aT.1 h).1];exact h
  obtain⟨vb,vf,h1,h2,h3,h4⟩:=h.wx;exact⟨⟨vb,vf,g _ _ h1,h2.keep fun l o _=>g l o,h3.keep fun l o _=>g l o,h4⟩,h.fr.keep fun l o _=>g l o,fun l hl=>by have:=h.lt l hl;simp;omega,h.nF,h.nD,h.di,by simp;have:=h.lw;omega⟩
 set {F D S} h l o hl:=by
  have g:∀k o',(k=w\/F k\/D k)->S[k]?=some o'->(S.set l o)[k]?=some o':=fun k o' hk h=>by
   rw[bC]
   .exact h
   .rintro rfl;rcases hk with hk|hk|hk
    .exact hl.1 hk
    .exact hl.2.1 hk
    .exact hl.2.2 hk
  obtain⟨vb,vf,h1,h2,h3,h4⟩:=h.wx;exact⟨⟨vb,vf,g _ _ (.inl rfl) h1,h2.keep fun l o h=>g l o (.inr (.inl h)),h3.keep fun l o h=>g l o (.inr (.inl h)),h4⟩,h.fr.keep fun l o h=>g l o (.inr (.inr h)),fun l hl=>by have:=h.lt l hl;simpa using this,h.nF,h.nD,h.di,by simpa using h.lw⟩
 out {F D S} h l hl:=⟨by have:=h.lw;omega,fun hf=>by have:=h.lt l (.inl hf);omega,fun hf=>by have:=h.lt l (.inr hf);omega⟩
def nw(sc:ag):Prop:=∀s,s∈sc->(s.map (·.1)).Nodup
def qbu{s:bw}(x:Bz)(h:(s.map (·.1)).Nodup):bw.at s.reverse x=bw.at s x:=by
 induction s with
 |nil=>rfl
 |cons e s ih=>
  rw[b9,List.nodup_cons]at h;have ih:=ih h.2;unfold bw.at at ih |-;rw[EI,qB,vH];by_cases hx:e.1=x
  .have hn:s.reverse.find? (fun p=>decide (p.1=x))=none:=by
    rw[vI];intro e' he' hh;simp only[cR]at hh;exact h.1 (by rw[hx,<-hh];exact jO (List.mem_reverse.1 he'))
   rw[hn];simp[hx]
  .simp only[dy hx];simp only[vH,dy hx,List.find?_nil,Option.or_none];exact ih
def JM:∀(sc:ag) (x:Bz),nw sc->wW (ag.flat sc) x=sc.at x
 |[],x,_=>rfl
 |s::r,x,h=>by
  have ih:=JM r x fun s hs=>h s (mc _ hs)
  have hs:=qbu x (h s (tH ..));unfold wW bw.at at *;simp only[ag.flat,List.reverse_append,qB,ag.at,bw.at]
  cases hf:s.reverse.find? (fun p=>decide (p.1=x)) with
  |some p=>rw[hf]at hs;rw[<-hs];simp
  |none=>rw[hf]at hs;rw[<-hs];simpa using ih
def I6:∀(l:List Bz) (s:bw) (n:Nat),(s.map (·.1)).Nodup->((binds l s n).map (·.1)).Nodup
 |[],s,n,h=>h
 |x::l,s,n,h=>by
  simp only[binds];split
  .exact I6 l s n h
  .rename_i hx;refine I6 l _ _ ?_;rw[cy,vQ];refine⟨h,by simp,?_⟩;intro a ha b hb;simp at hb;subst hb;rintro rfl;obtain⟨e,he,rfl⟩:=cE.1 ha;apply hx
   cases hf:bw.at s e.1 with
   |some k=>rfl
   |none=>exact absurd rfl (IW.1 hf e he)
def nw.bind{sc:ag}(h:nw sc)(l:List Bz)(n:Nat):nw (ah l n::sc):=fun s hs=>by
 rcases cX.1 hs with rfl|hs
 .exact I6 l [] n vR
 .exact h s hs
def LJ:∀(k:Nat) (l:List Bz),l.length<=k->∀x,x∈bY l->x∈l
 |_,[],_,x,h=>by simp[bY,ah,binds]at h
 |0,_::_,h,_,_=>by simp at h
 |k+1,y::l',h,x,hx=>by
  obtain⟨l,z,hl⟩:∃l z,y::l'=l++[z]:=⟨(y::l').dropLast,(y::l').getLast sM,(Ip _).symm⟩;rw[hl]at h hx |-;have hk:l.length<=k:=by simp at h;exact h
  rw[VL]at hx;split at hx
  .exact vO _ (LJ k l hk x hx)
  .rcases cC.1 hx with hx|hx
   .exact vO _ (LJ k l hk x hx)
   .exact yi _ hx
def CX{l:List Bz}{x:Bz}(h:x∈bY l):x∈l:=LJ _ l bL x h
def Sm.bounds(s:Sm):List Bz:=bY s.labels++s.bn
def Nc(h:bg.H):List Bz:=Prod.snd (α:=List Bz) (β:=List Bz) h
def R1:eU bg fun l h=>Nc h=l where
 e x h:=by subst h;rfl
 n {l h} x sc tg hq:=by
  show Prod.snd (jS h x.text sc)=l;unfold jS;split<;>exact hq
 c {l h} x sc hq:=by
  show Prod.snd (jS h x sc)=l;unfold jS;split<;>exact hq
def Sm.qmC(s:Sm):Nc (s.kP bg nC)=s.bounds:=by
 have h0:Nc nC=[]:=rfl;have h1:=R1.enters h0 _ s.labels bL;have h2:=R1.sm [ah s.labels 0] s h1;rw[eK,iW]at h2;exact h2
def Sm.tN(s:Sm):s.bounds.length=Sm.aX [s]:=by
 unfold Sm.bounds;simp only[cJ,iW,Sm.jR,Sm.aX,rJ]
end Go.Proofs.YtbifpocccfkhhaaGreatDoor

namespace Go.Proofs.YtbifpocccfkhhaaGreatDoor
open Go
def iV(a b:Bz):Prop:=a.data.toList<b.data.toList
def Lq(a:Bz):¬iV a a:=List.lt_irrefl _
def Vr{a b c:Bz}(h:iV a b)(g:iV b c):iV a c:=List.lt_trans h g
def qgD{a b:Bz}(h:¬iV a b)(g:¬iV b a):a=b:=by
 have:=List.le_antisymm (List.not_lt.1 g) (List.not_lt.1 h);exact pE (qz this)
def Ys:∀{l m:List Bz},l.Pairwise iV->m.Pairwise iV->(∀x,x∈l↔x∈m)->l=m
 |[],[],_,_,_=>rfl
 |[],y::m,_,_,h=>absurd ((h y).2 sM) sM
 |x::l,[],_,_,h=>absurd ((h x).1 sM) sM
 |x::l,y::m,hl,hm,h=>by
  have hl':=AK.1 hl;have hm':=AK.1 hm
  have hxy:x=y:=by
   by_cases hxy:x=y
   .exact hxy
   .have h1:x∈m:=(cX.1 ((h x).1 sM)).resolve_left hxy;have h2:y∈l:=(cX.1 ((h y).2 sM)).resolve_left (Ne.symm hxy);exact absurd (Vr (hm'.1 x h1) (hl'.1 y h2)) (Lq y)
  subst hxy;congr 1;refine Ys hl'.2 hm'.2 fun z=>⟨fun hz=>?_,fun hz=>?_⟩
  .rcases cX.1 ((h z).1 (mc _ hz)) with rfl|hz'
   .exact absurd (hl'.1 z hz) (Lq z)
   .exact hz'
  .rcases cX.1 ((h z).2 (mc _ hz)) with rfl|hz'
   .exact absurd (hm'.1 z hz) (Lq z)
   .exact hz'
def MV{ks:List Bz}{x:Bz}:x∈sJ ks↔x∈ks:=by
 unfold sJ;rw[cE];constructor
 .rintro⟨y,hy,rfl⟩;rw[List.mem_mergeSort]at hy;obtain⟨k,hk,rfl⟩:=cE.1 hy;simpa using hk
 .intro hx;exact⟨x.data.toList,by rw[List.mem_mergeSort];exact jO hx,by simp⟩
def qka{ks:List Bz}(nd:ks.Nodup):(sJ ks).Pairwise iV:=by
 unfold sJ;rw[List.pairwise_map];have tr:∀a b c:List UInt8,decide (a<=b)=true->decide (b<=c)=true->decide (a<=c)=true:=fun a b c h1 h2=>by simp only[cR]at *;exact List.le_trans h1 h2
 have to:∀a b:List UInt8,(decide (a<=b)||decide (b<=a))=true:=fun a b=>by simp only[vy,cR];exact List.le_total a b
 have h1:=List.pairwise_mergeSort tr to (ks.map fun k=>k.data.toList)
 have h2:((ks.map fun k=>k.data.toList).mergeSort fun x y=>decide (x<=y)).Nodup:=by
  refine((List.mergeSort_perm _ _).nodup_iff).2 ?_;exact List.Pairwise.map _ (fun a b hab hh=>hab (pE (qz hh))) nd
 refine(h1.and h2).imp ?_;rintro a b ⟨h3,h4⟩;show a<b;simp only[cR]at h3;by_cases hlt:a<b
 .exact hlt
 .exact absurd (List.le_antisymm h3 (List.not_lt.1 hlt)) h4
def gq:List Bz->Bz->List Bz
 |[],x=>[x]
 |y::l,x=>open Classical in if iV y x then y::gq l x else if y=x then y::l else x::y::l
def KO{x z:Bz}:∀{l:List Bz},z∈gq l x↔z∈l\/z=x
 |[]=>by simp[gq]
 |y::l=>by
  unfold gq;split
  .rw[cX,KO,cX,or_assoc]
  .split
   .rename_i h;subst h;simp only[cX];exact⟨.inl,fun h=>h.elim id fun h=>.inl h⟩
   .simp only[cX];constructor
    .rintro(h|h|h)
     .exact .inr h
     .exact .inl (.inl h)
     .exact .inl (.inr h)
    .rintro((h|h)|h)
     .exact .inr (.inl h)
     .exact .inr (.inr h)
     .exact .inl h
def UN{x:Bz}:∀{l:List Bz},l.Pairwise iV->(gq l x).Pairwise iV
 |[],_=>by simp[gq]
 |y::l,h=>by
  have h':=AK.1 h;unfold gq;split
  .rename_i hyx;refine AK.2 ⟨fun z hz=>?_,UN h'.2⟩;rcases KO.1 hz with hz|rfl
   .exact h'.1 z hz
   .exact hyx
  .rename_i hyx;split
   .exact h
   .rename_i hne
    have hxy:iV x y:=by
     by_cases hh:iV x y
     .exact hh
     .exact absurd (qgD hyx hh) hne
    refine AK.2 ⟨fun z hz=>?_,h⟩;rcases cX.1 hz with rfl|hz
    .exact hxy
    .exact Vr hxy (h'.1 z hz)
def Gv{z:Bz}:∀{l out:List Bz},out.Pairwise iV->(l.foldl gq out).Pairwise iV/\(z∈l.foldl gq out↔z∈out\/z∈l)
 |[],out,h=>⟨h,by simp⟩
 |x::l,out,h=>by
  obtain⟨h1,h2⟩:=Gv (z:=z) (l:=l) (UN (x:=x) h);refine⟨h1,?_⟩;rw[vJ,h2,KO,cX,or_assoc]
def Ze{l ks:List Bz}(nd:ks.Nodup)(h:∀x,x∈l↔x∈ks):l.foldl gq []=sJ ks:=
 Ys (Gv (z:=⟨⟨[]⟩⟩) List.Pairwise.nil).1 (qka nd) fun x=>by
  rw[(Gv (z:=x) List.Pairwise.nil).2,MV,h];simp
def Gr.rM{sz n0 bytes:Nat}{xs ys:List V}{v x:V}{S:St}(h:Gr sz n0 xs v S)(hx:elems S x=some ys)(hy:fits sz ys=true)(hr:(xs.length+ys.length)*bytes<=2^47)(hn:n0<=S.length):
  ∃v' S',dY S sz bytes v x=some (v',S')/\Gr sz n0 (xs++ys) v' S'/\S.length<=S'.length/\(∀l o,S[l]?=some o->(∀n,v≠.arr l 0 n n)->S'[l]?=some o)/\(∀l n,v'=.arr l 0 n n->(∃m,v=.arr l 0 m m)\/S.length<=l):=by
 rcases h with ⟨rfl,rfl⟩|⟨l,wr,h1,rfl,h3,h4⟩
 .by_cases he:ys=[]
  .subst he;refine⟨.sl true [],S,?_,.inl ⟨rfl,rfl⟩,cq _,fun _ _ h _=>h,fun l n h=>by cases h⟩;unfold dY;rw[hx];rfl
  .have pX:ys.isEmpty=false:=by cases ys with
    |nil=>exact absurd rfl he
    |cons=>rfl
   refine⟨.arr S.length 0 ys.length ys.length,S++[.arr ys sz ys.length],?_,.inr ⟨S.length,ys.length,hn,by simp,by simp,by simp⟩,by simp,fun l o ho _=>gp ho,fun l n h=>.inr (by injection h;omega)⟩;unfold dY;rw[hx];have hc:true=true/\fits sz ys=true/\(([]:List V).all fun v=>v.size==sz)=true/\(([]:List V).length+ys.length)*bytes<=2^47:=⟨rfl,hy,rfl,hr⟩;show(if ys.isEmpty=true then _ else _)=_;rw[aj (by rw[pX];simp),ai hc];simp
 .have hc:0=0/\xs.length=xs.length/\xs.length=xs.length/\sz=sz/\fits sz ys=true/\(xs.length+ys.length)*bytes<=2^47:=⟨rfl,rfl,rfl,rfl,hy,hr⟩;have hlt:l<S.length:=(aT.1 h3).1;refine⟨.arr l 0 (xs.length+ys.length) (xs.length+ys.length),S.set l (.arr (xs++ys) sz wr),?_,.inr ⟨l,wr,h1,by simp,by rw[bJ hlt],by simp;omega⟩,by simp,fun k o ho hk=>?_,fun k n h=>.inl ?_⟩
  .unfold dY;rw[hx];show(match S[l]? with|_=>_)=_;rw[h3];show(if _ then _ else _)=_;rw[ai hc]
  .rw[bC]
   .exact ho
   .rintro rfl;exact hk _ rfl
  .injection h with h;subst h;exact⟨_,rfl⟩
def UK{x:Bz}:∀(l:List Bz) (k:Nat),k<=l.length->(∀j y,j<k->l[j]?=some y->iV y x)->(∀y,l[k]?=some y->¬iV y x)->gq l x=if l[k]?=some x then l else l.take k++x::l.drop k
 |[],k,hk,_,_=>by
  have:k=0:=by simpa using hk
  subst this;simp[gq]
 |y::l,0,_,_,h2=>by
  have hy:=h2 y rfl;unfold gq;rw[aj hy];by_cases h:y=x
  .subst h;simp
  .simp[h]
 |y::l,k+1,hk,h1,h2=>by
  have hy:=h1 0 y oM rfl;have ih:=UK l k (by simpa using hk) (fun j z hj hz=>h1 (j+1) z oM (by simpa using hz)) (fun z hz=>h2 z (by simpa using hz));unfold gq;rw[ai hy,ih];simp only[tG,List.take_succ_cons,List.drop_succ_cons,cP];split<;>rfl
open Go.Proofs.Tryz
def uJ{r:Rp}{bf bt:Bool}{w:Nat}{fv:V}{bound:List Bz}{st:bp}{F D:Np}{S:St}(hk:Rk r bf bt w fv bound st F D S):∃vb vf,ae S (.ptr w 0 0 1) none=some vb/\ae S (.ptr w 0 1 1) none=some vf/\ae S (.ptr w 0 2 1) none=some fv/\ae S (.ptr w 0 3 1) none=some (.sl bf (r.mj.map .str))/\ae S (.ptr w 0 4 1) none=some (.sl bt (r.to.map Ex.v))/\ae S (.ptr w 0 5 1) none=some (.bool st.bad)/\ae S (.ptr w 0 6 1) none=some (.bool st.caught):=by
 obtain⟨vb,vf,h,_⟩:=hk.wx;unfold dK at h;refine⟨vb,vf,?_,?_,?_,?_,?_,?_,?_⟩<;>simp[ae,h]
def HB(r:Rp)(bf bt:Bool)(w:Nat)(fv:V)(bound:List Bz)(st:bp)(F D:Np)(S:St)(hk:Rk r bf bt w fv bound st F D S)(b:Bool)(sc:ag)(hd:nw sc)(hl:(ag.flat sc).length<=1000000)(x:Bz):
  Fn prog 176 [.ptr w 0 0 1,.sl b ((ag.flat sc).map cz),.str x] S (.str (cN r sc x)):=by
 refine au.ib OZ ?_;obtain⟨vb,vf,_,_,hfr,_⟩:=uJ hk;obtain⟨hlen,hrd⟩:=hk.fr.rd;simp[OZ];refine aG (Zv _ b x hl S) ?_;unfold Df;rw[JM sc x hd]
 have hr:cN r sc x=match sc.at x with
  |some k=>(r.fresh[k]?).getD x
  |none=>x:=rfl
 cases hat:sc.at x with
 |none=>
  rw[hat]at hr;simp only at hr;rw[hr];simp;exact aS rfl ⟨rfl,rfl⟩
 |some k=>
  rw[hat]at hr;simp only at hr;have hk0:(0:Int)<=k:=by omega
  by_cases hlt:k<r.fresh.length
  .obtain⟨p,hp1,hp2⟩:=hrd k hlt;rw[hr,bI hlt];simp[hk0,↓iU,cF,hfr,hlen,hlt,hp1,hp2];exact aS rfl ⟨rfl,rfl⟩
  .rw[hr,mb oM];simp[hk0,↓iU,cF,hfr,hlen,hlt];exact aS rfl ⟨rfl,rfl⟩
def qL(l:List Bz):fits 1 (l.map V.str)=true:=by simp[fits]
def Zu(l:List Sm)(hl:aY (l.map Pa.st)<=4000)(b:Bool)(w:Nat)(P:Np->Np->St->Prop)(fm:pF w P)(F D:Np)(S:St)(hk:P F D S):
  au prog 163 [.sl b (l.map Sm.v)] S (fun r U=>i7 w P F D S (.sl false ((bq l).map .str)) r U):=by
 have hlen:l.length<=4000:=by have:=jm (l.map Pa.st);rw[bu]at this;omega
 have hlab:∀i,i<=l.length->(bq (l.take i)).length<=4000:=fun i _=>by
  have:∀m:List Sm,(bq m).length<=aY (m.map Pa.st):=by
   intro m
   induction m with
   |nil=>simp[bq]
   |cons x m ih=>
    have:=Sm.mZ x;simp only[bq,iO,cJ,b9,fq]at ih |-;omega
  have h1:=this (l.take i);have h2:aY (l.map Pa.st)=aY ((l.take i).map Pa.st)+aY ((l.drop i).map Pa.st):=by rw[<-pf,<-cy,lA]
  omega
 refine au.vn ?_;simp only[V.cr,V.weak,i4];refine au.ib OS ?_;simp[OS];refine du (ER w 1 F D S P 3 ((bq l).map .str)) ?_ ?_
 ·refine bN (EK w 1 F D S l.length (fun _=>P) (fun i=>(bq (l.take i)).map .str)
   (fun i gv=>[(4,.int .i64 i),(3,gv),(0,.sl false (l.map Sm.v))])) l.length _ ?_ ⟨0,_,F,D,by simp,by omega,by simp[bq];exact Gw.nil _ _ _ _ _ _,hk,Stp.refl _ _ _ _,rfl⟩ ?_
  .exact aN
  rintro j e U ⟨i,gv,F1,D1,rfl,hi,hg,hk1,hs1,rfl⟩;dsimp only at hg hk1;by_cases hlt:i<l.length
  ·obtain ⟨v',U3,ha,hg3,hk3,hs4,_⟩:=hg.A1 fm (bytes:=16) (x:=.sl false (l[i].labels.map .str)) hk1 hs1 (mh _ _ _) (qL _) (by
    have:=hlab i oM;have h2:=jH (l:=l.map Pa.st) (i:=i) (q:=Pa.st l[i]) (by simp[hlt]);have h3:=Sm.mZ l[i];rw[bu,bu];omega)
   have hn:(bq (l.take i)).map V.str++l[i].labels.map .str=(bq (l.take (i+1))).map .str:=by
    rw[cY,bI hlt,gZ,<-cy];unfold bq;rw[AB];simp
   rw[hn]at hg3;simp[hlt,pY,ae,ha,bP i];refine⟨_,?_,_,?_,i+1,v',F1,D1,rfl,by omega,hg3,hk3,hs4,rfl⟩
   .omega
   .exact aN
  .have:i=l.length:=by omega
   subst this;simp only[eR]at hg hk1;simp;exact⟨gv,F1,D1,rfl,hg,hk1,hs1⟩
 rintro e U ⟨gv,F1,D1,g5,hg,hk1,hs1⟩;simp[g5];exact Bn fm rfl hg hk1 hs1 (by rw[<-iM,jL])
set_option maxHeartbeats 0
set_option maxRecDepth 100000
noncomputable def P6:=aI func42
noncomputable def N5:=aI func10
def ZW(x y:Bz):rn x y=true↔iV x y:=by
 unfold rn iV;rw[uU,uU,Go.Proofs.bytesLess_eq,cR]
def UM{x:Bz}:∀{l:List Bz},(gq l x).length<=l.length+1
 |[]=>by simp[gq]
 |y::l=>by
  have:=UM (x:=x) (l:=l);unfold gq;split
  .simp only[eE];omega
  .split<;>simp
def sF(S:St)(sz:Nat)(d:V)(lo hi:Option Int):Option V:=match d with
 |.sl ..=>gX S sz d lo hi
 |.arr ..=>gX S sz d lo hi
 |_=>none
def Bt(e:af)(S:St)(sz:Nat)(x:aV)(lo hi:Option aV):br e S (.slc false sz x lo hi)=(x.ev e).bind fun d=>(ju e lo).bind fun l=>(ju e hi).bind fun h=>(sF S sz d l h).map fun r=>(r,S):=by
 simp only[br]
 cases x.ev e with
 |none=>rfl
 |some d=>cases ju e lo with
  |none=>rfl
  |some l=>cases ju e hi with
   |none=>rfl
   |some h=>cases d<;>rfl
def Gr.rd{n0:Nat}{ys:List Bz}{v:V}{S:St}(h:Gr 1 n0 (ys.map .str) v S):Rd v ys S:=by
 rcases h with ⟨h1,rfl⟩|⟨l,wr,h1,rfl,h3,h4⟩
 .have:ys=[]:=by simpa using h1
  subst this;exact Rd.sl true [] S
 .rw[bu]at h4 |-;exact Rd.arr h3 h4
def Gr.ne{sz n0:Nat}{xs:List V}{v:V}{S:St}(h:Gr sz n0 xs v S){l:Nat}(hl:l<n0)(n:Nat):v≠.arr l 0 n n:=by
 rcases h with ⟨_,rfl⟩|⟨l',wr,h1,rfl,_⟩
 .simp
 .intro hh;injection hh with hh;omega
def Gr.fst{sz n0:Nat}{xs:List V}{v:V}{S:St}(h:Gr sz n0 xs v S){k:Nat}(hk:k<=xs.length):∃a,sF S sz v none (some (k:Int))=some a/\elems S a=some (xs.take k):=by
 rcases h with ⟨rfl,rfl⟩|⟨l,wr,h1,rfl,h3,h4⟩
 .have:k=0:=by simpa using hk
  subst this;exact⟨.sl true [],rfl,rfl⟩
 .refine⟨.arr l 0 k xs.length,?_,?_⟩
  .simp only[sF,gX,AP,yl];rw[ai ⟨by omega,by omega,by omega⟩];simp
  .simp only[elems,h3];rw[ai ⟨h4,by omega⟩];simp
def Gr.snd{sz n0:Nat}{xs:List V}{v:V}{S:St}(h:Gr sz n0 xs v S){k:Nat}(hk:k<=xs.length):∃a,sF S sz v (some (k:Int)) none=some a/\elems S a=some (xs.drop k):=by
 rcases h with ⟨rfl,rfl⟩|⟨l,wr,h1,rfl,h3,h4⟩
 .have:k=0:=by simpa using hk
  subst this;exact⟨.sl true [],rfl,rfl⟩
 .simp only[sF,gX,AP,yl];rw[ai ⟨by omega,by omega,by omega⟩];by_cases h0:k=0
  .subst h0;refine⟨_,ai rfl,?_⟩;simp only[elems,h3];rw[ai ⟨h4,by omega⟩];simp
  .rw[aj oM];by_cases hn:k=xs.length
   .exact⟨_,ai oM,by rw[hn,List.drop_length];rfl⟩
   .rw[aj oM,h3];simp only[];refine⟨_,ai ⟨h4,trivial⟩,?_⟩;simp only[elems,h3,vE,iQ];rw[ai ⟨h4,by omega⟩,iP (by rw[List.length_drop];exact cq _)]
def Gr.put{n0 k:Nat}{xs:List V}{y ov:V}{U:St}(h:Gr 1 n0 xs ov U)(hn:n0<=U.length)(hk:k<=xs.length)(hy:fits 1 [y]=true)(hx:fits 1 xs=true)(hl:xs.length<=1000000)(b:Bool):
  ∃(a v1:V) (U1:St) (v2:V) (U2:St) (c v3:V) (U3:St),sF U 1 ov none (some (k:Int))=some a/\dY U 1 16 (.sl true []) a=some (v1,U1)/\(∀(l:Nat) (o:Ob),U[l]?=some o->U1[l]?=some o)/\U.length<=U1.length/\dY U1 1 16 v1 (.sl b [y])=some (v2,U2)/\
   sF U2 1 ov (some (k:Int)) none=some c/\dY U2 1 16 v2 c=some (v3,U3)/\Gr 1 n0 (xs.take k++y::xs.drop k) v3 U3/\(∀(l:Nat) (o:Ob),U[l]?=some o->U3[l]?=some o)/\U.length<=U3.length:=by
 have ft:∀z:List V,(∀x,x∈z->x∈xs)->fits 1 z=true:=fun z hz=>by
  unfold fits at hx |-;rw[d6]at hx |-;exact fun x h=>hx x (hz x h)
 obtain⟨a,ha,ea⟩:=h.fst hk;obtain⟨v1,U1,p1,g1,l1,k1,_⟩:=(Gr.nil 1 U.length U).rM (bytes:=16) ea (ft _ fun x hx=>yj hx) (by simp;omega) bL;rw[eK]at g1;have k1:∀l o,U[l]?=some o->U1[l]?=some o:=fun l o ho=>k1 l o ho fun n=>by simp
 have e1:elems U1 (.sl b [y])=some [y]:=rfl;obtain⟨v2,U2,p2,g2,l2,k2,_⟩:=g1.rM (bytes:=16) e1 hy (by simp;omega) l1;have k2:∀l o,U[l]?=some o->U2[l]?=some o:=fun l o ho=>k2 l o (k1 l o ho) fun n=>g1.ne (aM ho) n
 have h2:Gr 1 n0 xs ov U2:=h.keep fun l _ hl=>by
  rw[bI hl];exact k2 l _ (bI hl)
 obtain⟨c,hc,ec⟩:=h2.snd hk;obtain⟨v3,U3,p3,g3,l3,k3,_⟩:=g2.rM (bytes:=16) ec (ft _ fun x hx=>EH hx) (by simp;omega) oM;refine⟨a,v1,U1,v2,U2,c,v3,U3,ha,p1,k1,l1,p2,hc,p3,?_,fun l o ho=>k3 l o (k2 l o ho) fun n=>g2.ne (aM ho) n,by omega⟩;have:=g3.less hn;rw[cO]at this;exact this
def Sd(l:List Bz)(i:Nat):List Bz:=(l.take i).foldl gq []
def qaS{l:List Bz}{i:Nat}(h:i<l.length):Sd l (i+1)=gq (Sd l i) l[i]:=by
 unfold Sd;rw[cY,bI h,gZ,pG];rfl
def UL:∀{l out:List Bz},(l.foldl gq out).length<=out.length+l.length
 |[],out=>by simp
 |x::l,out=>by
  have h1:=UL (l:=l) (out:=gq out x);have h2:=UM (x:=x) (l:=out);rw[vJ,eE];omega
def qaR(l:List Bz)(i:Nat):(Sd l i).length<=l.length:=by
 have h1:=UL (l:=l.take i) (out:=[]);have h2:=List.length_take_le i l;unfold Sd;simp only[kj]at h1;have h3:(l.take i).length<=l.length:=by rw[km];omega
 omega
structure Sq(l:List Bz)(S:St)(i:Nat)(ov:V)(U:St):Prop where
 g:Gr 1 S.length ((Sd l i).map .str) ov U
 k:Kp (fun _=>False) S U
def qlr(v:V)(l:List Bz)(hl:l.length<=100000)(S:St)(hr:∀U,Kp (fun _=>False) S U->Rd v l U):
    au prog 42 [v] S (fun r U=>r=.sl false ((l.foldl gq []).map .str)/\Kp (fun _=>False) S U):=by
  refine au.ib P6 ?_;simp[P6];refine du (fun e U=>∃ov,e.get 3=some ov/\Sq l S l.length ov U) ?_ ?_
  · refine bN (fun j e U=>∃(i:Nat) (ov:V),j=l.length-i/\i<=l.length/\Sq l S i ov U/\e=[(4,.int .i64 i),(3,ov),(0,v)]) l.length _ ?_ ⟨0,.sl true [],by simp,by omega,⟨Gr.nil _ _ _,Kp.refl _ _⟩,rfl⟩ ?_
    · exact aN
    rintro j e U ⟨i,ov,rfl,hi,hq,rfl⟩;obtain⟨hlen,hrd⟩:=hr U hq.k;have hU:=hq.k.len;by_cases h:i<l.length
    case neg=>
      have:i=l.length:=by omega
      subst this;simp[↓iU,hlen];exact hq
    obtain⟨p,hp1,hp2⟩:=hrd i h;have hsl:=qaR l i;obtain⟨hol,hod⟩:=hq.g.rd;have hnx:=qaS h;obtain⟨x,hx⟩:∃x,x=l[i]:=⟨_,rfl⟩;rw[<-hx]at hp2 hnx;obtain⟨d,hd⟩:∃d,d=Sd l i:=⟨_,rfl⟩;rw[<-hd]at hnx hsl hol hod;simp[↓iU,hlen,h];refine du (fun e' U'=>U'=U/\∃k:Nat,k<=d.length/\(∀j y,j<k->d[j]?=some y->iV y x)/\(∀y,d[k]?=some y->¬iV y x)/\e'.get 0=some v/\e'.get 3=some ov/\e'.get 4=some (.int .i64 i)/\e'.get 5=some (.int .i64 k)) ?_ ?_
    · refine bN (fun j e' U'=>∃k:Nat,j=d.length-k/\k<=d.length/\U'=U/\(∀j y,j<k->d[j]?=some y->iV y x)/\e'=[(5,.int .i64 k),(4,.int .i64 i),(3,ov),(0,v)]) d.length _ ?_ ⟨0,by simp,by omega,rfl,fun j y hj=>by omega,rfl⟩ ?_
      · exact aN
      rintro j e' U' ⟨k,rfl,hk,rfl,hlt,rfl⟩;by_cases hkl:k<d.length
      · obtain⟨q,hq1,hq2⟩:=hod k hkl
        cases hs:rn d[k] x with
        |true=>
          simp[↓iU,hol,hkl,hq1,hq2,hp1,hp2,hs];refine mg rfl rfl ?_;simp[hs,bP k];refine⟨_,?_,_,?_,k+1,rfl,by omega,fun j y hj hy=>?_,rfl⟩
          · omega
          · exact aN
          · by_cases hjk:j=k
            · subst hjk;rw[bI hkl]at hy;cases hy;exact(ZW _ _).1 hs
            · exact hlt j y oM hy
        |false=>
          simp[↓iU,hol,hkl,hq1,hq2,hp1,hp2,hs];refine mg rfl rfl ?_;simp[hs];refine⟨k,hk,hlt,fun y hy=>?_,rfl⟩;rw[bI hkl]at hy;cases hy;rw[<-ZW,hs];simp
      · have:k=d.length:=by omega
        subst this;simp[↓iU,hol];refine mg rfl rfl ?_;simp;exact⟨d.length,cq _,hlt,fun y hy=>by simp at hy,rfl⟩
    rintro e' U' ⟨rfl,k,hk,h1,h2,g0,g3,g4,g5⟩;have hat:=UK d k hk h1 h2;by_cases hkx:d[k]?=some x
    · obtain⟨hkl,qeU⟩:=aT.1 hkx;obtain⟨q,hq1,hq2⟩:=hod k hkl;rw[qeU]at hq2;rw[ai hkx]at hat;simp[↓iU,g0,g3,g4,g5,hol,hkl,hq1,hq2,hp1,hp2];refine mg rfl rfl ?_;simp[g0,g3,g4,g5,bP i];refine⟨_,?_,_,?_,i+1,rfl,by omega,ov,⟨by rw[hnx,hat,hd];exact hq.g,hq.k⟩,rfl⟩
      · omega
      · repeat' first|exact af.fh _|refine af.dV (by simp[g0,g3]) ?_
    · rw[aj hkx]at hat;have hg:Gr 1 S.length (d.map .str) ov U':=by rw[hd];exact hq.g
      obtain⟨a,v1,U1,v2,U2,c,v3,U3,q1,q2,q3,q4,q5,q6,q7,q8,q9,q10⟩:=hg.put (y:=.str x) (b:=true) hU (by rw[bu];exact hk) rfl (qL d) (by rw[bu];omega)
      have kU:∀{Y:St},(∀(l:Nat) (o:Ob),U'[l]?=some o→Y[l]?=some o)→U'.length≤Y.length→Kp (fun _=>False) S Y:=fun {Y} hV hl=>⟨by omega,fun m hm hn=>by
        have h1:=hq.k.get m hm hn;have h2:m<U'.length:=by omega
        rw[<-h1,bI h2];exact hV m _ (bI h2)⟩
      obtain⟨_,Kv⟩:=hr U1 (kU q3 q4);obtain⟨p',hp3,Kt⟩:=Kv i h;rw[<-hx]at Kt;have hft:fits 1 [V.str x]=true:=rfl;have hq3:Sq l S (i+1) v3 U3:=⟨by rw[hnx,hat];simpa using q8,kU q9 q10⟩;by_cases hkl:k<d.length
      · obtain⟨q,hq1,hq2⟩:=hod k hkl;have hne:¬d[k]=x:=fun hh=>hkx (by rw[bI hkl,hh])
        simp[↓iU,↓Bt,g0,g3,g4,g5,hol,hkl,hq1,hq2,hp1,hp2,hne];refine mg rfl rfl ?_;simp[↓iU,↓Bt,ju,g0,g3,g4,g5,q1,q2,hp3,Kt,hft,q5,q6,q7,bP i];refine⟨_,?_,_,?_,i+1,rfl,by omega,v3,hq3,rfl⟩
        · omega
        · repeat' first|exact af.fh _|refine af.dV (by simp[g0,g3]) ?_
      · simp[↓iU,↓Bt,g0,g3,g4,g5,hol,hkl];refine mg rfl rfl ?_;simp[↓iU,↓Bt,ju,g0,g3,g4,g5,q1,q2,hp3,Kt,hft,q5,q6,q7,bP i];refine⟨_,?_,_,?_,i+1,rfl,by omega,v3,hq3,rfl⟩
        · omega
        · repeat' first|exact af.fh _|refine af.dV (by simp[g0,g3]) ?_
  rintro e U ⟨ov,g3,hq⟩;simp[g3];have hsd:Sd l l.length=l.foldl gq []:=by unfold Sd;rw[eR]
  have hq1:=hq.g;rw[hsd]at hq1
  obtain⟨U',gh,hk⟩:∃U',cK S.length ov U (.sl false ((l.foldl gq []).map .str)) U'/\Kp (fun _=>False) S U':=by
    rcases hq1 with ⟨h1,rfl⟩|⟨m,wr,h1,rfl,h3,h4⟩
    · rw[h1];exact⟨U,cK.weak (r:=.sl true []),hq.k⟩
    · have g1:=cK.freeze (n:=S.length) (l:=m) (off:=0) (len:=((l.foldl gq []).map V.str).length) (st:=((l.foldl gq []).map V.str).length) h3 h4 oM;simp only[tD,eR]at g1;exact⟨_,g1,hq.k.set _ (.inr h1)⟩
  exact⟨_,rfl,_,U',gh,rfl,hk⟩
def qkr(x:Bz){p3 p5 p7 t3 t5 m:Nat}{tks JL:List Bz}{b1 b2:List Nat}{c1 c2:Nat}{c:Bz->Int}{S:St}(h3:S[p3]?=some (.arr [.map t3] 1 1))(h3':S[t3]?=some (.map (tks.map kv) b1 c1))(h5:S[p5]?=some (.arr [.map t5] 1 1))(h5':S[t5]?=some (.map (JL.map kv) b2 c2))(h7:S[p7]?=some (.arr [.map m] 1 1))(hc:Cm c m S):
  Fn prog 146 [.str x,.ptr p3 0 0 1,.ptr p5 0 0 1,.ptr p7 0 0 1] S (.bool (eN x tks||eN x JL||decide (0<c x))):=by
 refine au.ib Ek ?_;have l1:=Lm x h3';have l2:=Lm x h5';have l3:=hc.get x
 cases h1:eN x tks with
 |true=>
  rw[h1]at l1;simp[Ek,ae,h3,aZ,l1,V.part,V.cells];exact aS rfl ⟨rfl,rfl⟩
 |false=>
  rw[h1]at l1
  cases h2:eN x JL with
  |true=>
   rw[h2]at l2;simp[Ek,ae,h3,h5,aZ,l1,l2,V.part,V.cells];exact aS rfl ⟨rfl,rfl⟩
  |false=>
   rw[h2]at l2;simp[Ek,ae,h3,h5,h7,aZ,l1,l2,l3,V.part,V.cells];exact aS rfl ⟨by simp[aK],rfl⟩
def Rd.flat{v:V}{l:List Bz}{S:St}(h:Rd v l S):v.cells=[v]/\v.flat=true/\v.size=1:=by
 have:=h.1;cases v<;>simp[oY]at this<;>exact⟨rfl,rfl,rfl⟩
def qks(p c k:Nat)(x y:Bz)(tv:V)(l:List Bz)(U:St)(hp:U[p]?=some (dZ x k y))(hc:U[c]?=some (.arr [tv] 1 1))(hr:Rd tv l U)(hk:k<l.length):
  au prog 147 [.ptr p 0 0 1,.ptr c 0 0 1] U (fun _ U'=>U'=U.set p (dZ x k (lf l k))):=by
 refine au.ib OD ?_;have hlf:lf l k=l[k]:=by unfold lf;rw[bI hk];rfl
 have hfl:=hr.flat;obtain⟨q,q1,q2⟩:=hr.2 k hk;rw[hlf];unfold dZ at hp |-;have e1:ae U (.ptr p 0 0 1) none=some (.int .i64 k):=by simp[ae,hp]
 have e2:ae U (.ptr c 0 0 1) none=some tv:=by simp[ae,hc,hfl]
 have e3:aA U (.ptr p 0 2 1) 1 (.str l[k])=some (U.set p (.arr [.agg [.int .i64 k,.str x,.str l[k]]] 3 1)):=by simp[aA,hp,aE]
 simp[OD,e1,e2,cF,q1,q2,e3];refine mg rfl rfl ?_;exact i9 rfl rfl
structure Ap(l:List Bz)(c:Nat)(tv:V)(F D:Np)(U:St):Prop where
 f:∀x,¬F x
 d:∀x,D x↔x=c\/∃n,tv=.arr x 0 n n
 c:U[c]?=some (.arr [tv] 1 1)
 t:(l=[]/\tv=.sl true [])\/∃a wr,tv=.arr a 0 l.length l.length/\U[a]?=some (.arr (l.map .str) 1 wr)/\wr<=l.length
section
variable {l:List Bz} {c:Nat} {tv:V} {F D:Np} {U:St}
theorem Ap.rd(k:Ap l c tv F D U):Rd tv l U:=by
 rcases k.t with ⟨rfl,rfl⟩|⟨a,wr,rfl,h1,h2⟩
 .exact Rd.sl true [] U
 .exact Rd.arr h1 h2
theorem Ap.gD(k:Ap l c tv F D U){x:Nat}(h:D x):∃o,U[x]?=some o/\(∀i,o≠.loop i)/\∀y k z,o≠dZ y k z:=by
 rcases(k.d x).1 h with rfl|⟨n,hn⟩
 .refine⟨_,k.c,by simp,fun y i z hh=>?_⟩;unfold dZ at hh;simp at hh
 .rcases k.t with ⟨_,rfl⟩|⟨a,wr,rfl,h1,h2⟩
  .cases hn
  .cases hn;refine⟨_,h1,by simp,fun y i z hh=>?_⟩;unfold dZ at hh;simp at hh
theorem Ap.fr{U':St}{M:Np}(k:Ap l c tv F D U)(hk:Kp M U U')(hM:∀l,M l->l<U.length->¬F l/\¬D l):Ap l c tv F D U':=by
 have g:∀{x o},U[x]?=some o->D x->U'[x]?=some o:=fun ho hd=>hk.at ho fun hm=>(hM _ hm (aM ho)).2 hd
 refine⟨k.f,k.d,g k.c ((k.d _).2 (.inl rfl)),k.t.imp id fun⟨a,wr,h1,h2,h3⟩=>⟨a,wr,h1,g h2 ((k.d _).2 (.inr ⟨_,h1⟩)),h3⟩⟩
end
def IB(l:List Bz)(c:Nat):Cb where
 toPw:=nuP (lf l)
 fe:=.fn (.func 147) [] [.ptr c 0 0 1]
 fn:=.bB
 fc:=.bB
 I _ F D U:=∃tv,Ap l c tv F D U
 cn _ _:=True
 lim:=l.length
theorem qa8(l:List Bz)(c:Nat)(hl:l.length<=100001):(IB l c).Ok where
 lim:=hl
 lt:=fun⟨tv,k⟩ x hx=>by
  rcases hx with hx|hx
  .exact absurd hx (k.f x)
  .obtain⟨o,ho,_⟩:=k.gD hx;exact aM ho
 fr:=fun⟨tv,k⟩ hk hM=>⟨tv,k.fr hk hM⟩
 lp:=fun ⟨tv,k⟩ x o ho=>⟨k.f x,fun hd=>by
  obtain⟨o',ho',h1,_⟩:=k.gD hd;rw[ho]at ho';cases ho';exact h1 _ rfl⟩
 ce _ _:=trivial
 cm _ _ _ _:=trivial
 cc _ _ _:=trivial
 real:=fun {h F D S} ⟨tv,k⟩ h'=>⟨F,D,S,⟨tv,k⟩,Kp.refl _ _,grow.refl _ _,grow.refl _ _⟩
 en:=.inr ⟨147,[.ptr c 0 0 1],rfl,fun U p k x h F D hp hF hD hk _ ⟨tv,hI⟩=>by
  refine au.mono (qks p c k x x tv l U hp hI.c hI.rd hk) fun v U' hU=>?_
  subst hU;exact⟨F,D,⟨tv,hI.fr (M:=fun y=>y=p) ((Kp.refl _ _).set _ (.inl rfl)) fun y hy _=>by rw[hy];exact⟨hF,hD⟩⟩,bJ (aM hp),(Kp.refl _ _).set _ (.inl (.inl rfl)),grow.refl _ _,fun _ h=>.inl h⟩⟩
 nm:=rfl
 cl:=rfl
structure Az(h:List Bz×List Bz)(m c4 c5 c6:Nat)(v:V)(ps:List Nat)(F D:Np)(q5 q7 mm:Nat)(c:Bz->Int)(U:St):Prop where
 co:Co m c4 c5 c6 h v ps F D U
 x5:U[q5]?=some (.arr [.map m] 1 1)
 x7:U[q7]?=some (.arr [.map mm] 1 1)
 xm:Cm c mm U
 o5:¬F q5/\¬D q5
 o7:¬F q7/\¬D q7
 om:¬F mm/\¬D mm
section
variable {h:List Bz×List Bz} {m c4 c5 c6:Nat} {v:V} {ps:List Nat} {F D:Np} {q5 q7 mm:Nat} {c:Bz->Int} {U:St}
theorem Az.mo(k:Az h m c4 c5 c6 v ps F D q5 q7 mm c U):∃ms bs ck,U[mm]?=some (.map (List.map ki ms) bs ck):=by
 obtain⟨ms,bs,ck,h,_⟩:=k.xm;exact⟨ms,bs,ck,h⟩
theorem Az.fr{U':St}{M:Np}(k:Az h m c4 c5 c6 v ps F D q5 q7 mm c U)(hk:Kp M U U')(hM:∀l,M l->l<U.length->¬F l/\¬D l/\l≠q5/\l≠q7/\l≠mm):Az h m c4 c5 c6 v ps F D q5 q7 mm c U':=
 ⟨k.co.fr hk fun l hl hh=>⟨(hM l hl hh).1,(hM l hl hh).2.1⟩,hk.at k.x5 fun hh=>(hM _ hh (aM k.x5)).2.2.1 rfl,hk.at k.x7 fun hh=>(hM _ hh (aM k.x7)).2.2.2.1 rfl,k.xm.keep fun o ho=>hk.at ho fun hh=>(hM _ hh (aM ho)).2.2.2.2 rfl,k.o5,k.o7,k.om⟩
theorem Az.put(k:Az h m c4 c5 c6 v ps F D q5 q7 mm c U)(s:Bz)(n:Int):∃o,kE U .str (.map mm) (.str s) (.int .i64 n)=some (U.set mm o)/\Az h m c4 c5 c6 v ps F D q5 q7 mm (fun x=>if x=s then n else c x) (U.set mm o):=by
 obtain⟨es,bs,ck,h1,h2⟩:=k.xm.put s n;obtain⟨ms,b0,k0,h3⟩:=k.mo;refine⟨_,h1,k.co.set _ k.om.1 k.om.2,?_,?_,h2 _ (bJ (aM h3)),k.o5,k.o7,k.om⟩
 .rw[bC (qV h3 k.x5 sM)];exact k.x5
 .rw[bC (qV h3 k.x7 sM)];exact k.x7
end
mutual
theorem Sm.A8{nm:Bz->Bool}:∀(s:Sm),(Pa.st s).valid nm=true->∀x,x∈s.bn->nm x=true
 |.mk l k t g e f d b,v,x,hx=>by
  have vd:=Sm.rx v;have vb:=Sm.jo v;simp only[Sm.decls,Sm.body]at vd vb
  have lab:x∈bq b->nm x=true:=fun hx=>by
   obtain⟨y,hy,hx⟩:=tI.1 hx;exact Sm.HM (vb y hy) x hx
  rw[Sm.bn]at hx;split at hx
  .rcases cC.1 hx with hx|hx
   .rcases cC.1 hx with hx|hx
    .rcases cC.1 (CX hx) with hx|hx
     .obtain⟨y,hy,hx⟩:=tI.1 hx;exact De.qaf (vd y hy) x hx
     .exact lab hx
    .exact De.yw d vd x hx
   .exact Sm.yw b vb x hx
  .split at hx
   .rcases cC.1 hx with hx|hx
    .exact lab (CX hx)
    .exact Sm.yw b vb x hx
   .exact Sm.Ja b vb x hx
theorem De.A8{nm:Bz->Bool}:∀(s:De),(Pa.de s).valid nm=true->∀x,x∈s.bn->nm x=true
 |.mk k o t ns e fo b,v,x,hx=>by
  have vb:=De.jo v;have vf:=De.qae v;simp only[De.body,De.aB]at vb vf;rw[De.bn]at hx;split at hx
  .rcases cC.1 hx with hx|hx
   .obtain⟨y,hy,rfl⟩:=cE.1 (CX hx);exact vf y hy
   .exact Sm.Ja b vb x hx
  .simp at hx
theorem De.yw{nm:Bz->Bool}:∀(l:List De),(∀y,y∈l->(Pa.de y).valid nm=true)->∀x,x∈De.bS l->nm x=true
 |[],_,x,hx=>by simp[De.bS]at hx
 |y::l,v,x,hx=>by
  rw[De.bS]at hx;rcases cC.1 hx with hx|hx
  .exact De.A8 y (v y sM) x hx
  .exact De.yw l (fun z hz=>v z (by simp[hz])) x hx
theorem Sm.yw{nm:Bz->Bool}:∀(l:List Sm),(∀y,y∈l->(Pa.st y).valid nm=true)->∀x,x∈Sm.bS l->nm x=true
 |[],_,x,hx=>by simp[Sm.bS]at hx
 |y::l,v,x,hx=>by
  rw[Sm.bS]at hx;rcases cC.1 hx with hx|hx
  .exact Sm.A8 y (v y sM) x hx
  .exact Sm.yw l (fun z hz=>v z (by simp[hz])) x hx
theorem Sm.Ja{nm:Bz->Bool}:∀(l:List Sm),(∀y,y∈l->(Pa.st y).valid nm=true)->∀x,x∈Sm.eS l->nm x=true
 |[],_,x,hx=>by simp[Sm.eS]at hx
 |y::l,v,x,hx=>by
  rw[Sm.eS]at hx;rcases cC.1 hx with hx|hx
  .rcases cC.1 hx with hx|hx
   .exact Sm.HM (v y sM) x (CX hx)
   .exact Sm.A8 y (v y sM) x hx
  .exact Sm.Ja l (fun z hz=>v z (by simp[hz])) x hx
end
def Sm.Bc{nm:Bz->Bool}(s:Sm)(v:(Pa.st s).valid nm=true):∀x,x∈s.bounds->nm x=true:=fun x hx=>(cC.1 hx).elim (fun h=>Sm.HM v x (CX h)) (Sm.A8 s v x)
def qel(s:Sm)(b:Bz):eN b ((dp (s.kP bg nC)).foldl dQ [])=eN b s.frees:=by
 rw[dq,jv,jv];unfold Sm.frees;rw[MV]
def qce(l:List Bz)(y x:Bz):dw (l++[y]) x=if x=y then dw l y+1 else dw l x:=by
 rw[Jl];simp only[dw];split
 .rename_i h;rw[h];omega
 .omega
def qcf(a b:List Bz)(y t x:Bz):dw (a++t::b) x=if x=t then(if t=y then dw (a++y::b) y-1 else dw (a++y::b) t)+1 else if x=y then dw (a++y::b) y-1 else dw (a++y::b) x:=by
 simp only[Jl,dw];by_cases h1:x=t
 .subst h1;by_cases h2:x=y
  .subst h2;simp
  .simp[h2];omega
 .by_cases h2:x=y
  .subst h2;simp[h1];omega
  .simp[h1,h2]
def ND{v y:V}(hv:v.size=1)(hy:y.cells=[y]/\y.flat=true/\y.size=1):V.upd v 0 1 y=some y:=by
 unfold V.upd;rw[ai ⟨hy.2.2,by rw[hy.1];simp[hy.2.1]⟩,ai ⟨rfl,hv.symm⟩]
def qlL(s:Sm)(hs:s.ok)(va:(Pa.st s).valid ar=true)(hsz:(Pa.st s).size<=4000)(tks:List Bz)(htk:s.frees.length+Sm.aX [s]+tks.length<=899)(tk:Nat)(b1:List Nat)(k1:Nat)(S:St)(htS:S[tk]?=some (.map (tks.map kv) b1 k1)):
    au prog 95 [s.v,.map tk] S (fun r U=>r=(s.whole (lf (fM tks s.frees [] s.bounds))).v/\Kp (fun _=>False) S U):=by
  refine au.ib QB ?_;obtain⟨S1,hS1⟩:∃S1:St,S1=S++[.arr [s.v] 8 1,.arr [.map tk] 1 1,.arr [bX] 8 1]:=⟨_,rfl⟩;have p0:S1[S.length]?=some (.arr [s.v] 8 1):=by rw[hS1];simp
  have p1:S1[S.length+1]?=some (.arr [.map tk] 1 1):=by rw[hS1,bK oM];simp
  have p2:S1[S.length+2]?=some (.arr [bX] 8 1):=by rw[hS1,bK oM];simp
  have l1:S1.length=S.length+3:=by rw[hS1];simp
  have kS:Kp (fun _=>False) S S1:=by rw[hS1];exact(Kp.refl _ _).push _
  have pt:S1[tk]?=some (.map (tks.map kv) b1 k1):=kS.at htS id;have d0:ae S1 (.ptr S.length 0 0 1) (some 8)=some s.v:=by simp[ae,p0]
  have hN:=s.tN;simp[QB,aC];rw[<-hS1];simp[d0];refine aU (qlz s hs oM oM S1) ?_;rintro r U ⟨m,c4,c5,c6,v,ps,F,D,rfl,co,kU,far⟩;have hb2:(s.kP bg ([],[]):List Bz×List Bz).2=s.bounds:=s.qmC;have hlv:=co.oY;rw[hb2]at hlv;have BW:v.cells=[v]/\v.flat=true/\v.size=1:=by rcases co.gr with ⟨_,rfl⟩|⟨a,wr,rfl,_⟩<;>exact⟨rfl,rfl,rfl⟩
  have lU:=kU.len;obtain⟨h,hh⟩:∃h:List Bz×List Bz,h=(s.kP bg ([],[]):List Bz×List Bz):=⟨_,rfl⟩;obtain⟨U2,cA⟩:∃U2:St,U2=U++[.arr [.map m] 1 1,.map [] [] 0,.arr [.map (U.length+1)] 1 1]:=⟨_,rfl⟩;have out:∀l,U.length<=l->¬F l/\¬D l:=fun l hl=>⟨fun hf=>by have:=co.lt (.inl hf);omega,fun hf=>by have:=co.lt (.inr hf);omega⟩
  have az:Az h m c4 c5 c6 v ps F D U.length (U.length+2) (U.length+1) (fun _=>0) U2:=by
    rw[cA,hh];refine⟨co.push _,by simp,by rw[bK oM];simp,⟨[],[],0,by rw[bK oM];simp,fun _=>rfl⟩,out _ oM,out _ oM,out _ oM⟩
  have Cf:Kp (fun _=>False) S1 U2:=by rw[cA];exact kU.push _
  have hbl:s.bounds.length<900:=by omega
  simp[aC,aZ,aA,NE,↓iU,hlv];rw[<-cA];refine du (fun e X=>Az h m c4 c5 c6 v ps F D U.length (U.length+2) (U.length+1) (dw s.bounds) X/\Kp (fun _=>False) S1 X/\U2.length<=X.length/\e.get 2=some (.ptr S.length 0 0 1)/\e.get 3=some (.ptr (S.length+1) 0 0 1)/\e.get 4=some (.ptr (S.length+2) 0 0 1)/\e.get 5=some (.ptr U.length 0 0 1)/\e.get 6=some v/\e.get 7=some (.ptr (U.length+2) 0 0 1)) ?_ ?_
  · refine bN (fun j e X=>∃i:Nat,j=s.bounds.length - i∧i≤s.bounds.length∧Az h m c4 c5 c6 v ps F D U.length (U.length+2) (U.length+1) (dw (s.bounds.take i)) X∧Kp (fun _=>False) S1 X∧U2.length≤X.length∧
      e=[(23,.int .i64 i),(22,.int .i64 s.bounds.length),(21,v),(7,.ptr (U.length+2) 0 0 1),(6,v),(5,.ptr U.length 0 0 1),(4,.ptr (S.length+2) 0 0 1),(3,.ptr (S.length+1) 0 0 1),(2,.ptr S.length 0 0 1)]) s.bounds.length _ ?_ ⟨0,by simp,by omega,az,Cf,cq _,rfl⟩ ?_
    · exact aN
    rintro j e X ⟨i,rfl,hi,az,kX,lX,rfl⟩;by_cases hlt:i<s.bounds.length
    · have hlt':i<h.2.length:=by rw[hh,hb2];exact hlt
      obtain⟨p,l,st,h1,h2,h3⟩:=az.co.at hlt';have hx:h.2[i]=s.bounds[i]:=by simp only[hh,hb2]
      rw[hx]at h3;obtain⟨x,hxx⟩:∃x,x=s.bounds[i]:=⟨_,rfl⟩;rw[<-hxx]at h3;unfold dZ at h3;have h4:ae X (.ptr p 0 1 1) none=some (.str x):=by simp only[ae,h3];rfl
      have h7:ae X (.ptr (U.length+2) 0 0 1) none=some (.map (U.length+1)):=by simp[ae,az.x7,V.part,V.cells]
      have hg:=az.xm.get x;have hle:=Bg x (s.bounds.take i);have htl:(s.bounds.take i).length<=900:=by rw[km];omega
      obtain⟨o,hp,vZ⟩:=az.put x (dw (s.bounds.take i) x+1)
      have hc:(fun y=>if y=x then dw (s.bounds.take i) x+1 else dw (s.bounds.take i) y)=dw (s.bounds.take (i+1)):=by
        funext y;rw[cY,bI hlt,gZ,<-hxx,qce]
      rw[hc]at vZ;have i1:=dP (n:=dw (s.bounds.take i) x+1) oM oM;simp[hlt,h1,h2,cF,h7,h4,aZ,hg,i1,hp];refine mg rfl rfl ?_;simp[bP i];refine⟨_,?_,_,?_,i+1,rfl,by omega,vZ,kX.set _ (.inr oM),by simpa using lX,rfl⟩
      · omega
      · exact aN
    · have:i=s.bounds.length:=by omega
      subst this;rw[eR]at az;simp;exact⟨az,kX,lX⟩
  clear az Cf;rintro e X ⟨az,kX,lX,g2,g3,g4,g5,g6,g7⟩;simp[g2,g3,g4,g5,g6,g7,aC,aA,↓iU,hlv];obtain⟨Q,hQ⟩:∃Q,Q=X.length:=⟨_,rfl⟩;rw[<-hQ];obtain⟨dn,hdn⟩:∃dn:Nat->List Bz,dn=fun i=>me tks s.frees [] s.bounds i:=⟨_,rfl⟩
  have FD:dn 0=[]:=by rw[hdn];simp[me]
  have yE:∀i,i<=s.bounds.length->(dn i).length=i:=fun i hi=>by rw[hdn];simpa using ID tks s.frees s.bounds [] i hi
  have dns:∀i (hi:i<s.bounds.length),dn (i+1)=dn i++[iC tks s.frees (dn i) s.bounds[i] (s.bounds.drop (i+1))]:=fun i hi=>by rw[hdn];exact IE tks s.frees s.bounds [] i hi
  have qnf:U2.length=U.length+3:=by rw[cA];simp
  have lo:∀l,Q<=l->¬F l/\¬D l/\l≠U.length/\l≠U.length+2/\l≠U.length+1:=fun l hl=>⟨fun hf=>by have:=az.co.lt (.inl hf);omega,fun hf=>by have:=az.co.lt (.inr hf);omega,by omega,by omega,by omega⟩
  obtain⟨Inv,hInv⟩:∃Inv:Nat->V->St->Prop,∀i tv Y,Inv i tv Y↔(Az h m c4 c5 c6 v ps F D U.length (U.length+2) (U.length+1) (dw (dn i++s.bounds.drop i)) Y/\Kp (fun _=>False) S1 Y/\Y[Q]?=some (.arr [tv] 1 1)/\Gr 1 (Q+1) ((dn i).map .str) tv Y):=⟨_,fun _ _ _=>Iff.rfl⟩;have step:∀(i:Nat) (hi:i<s.bounds.length) (Y:St) (tv:V),Az h m c4 c5 c6 v ps F D U.length (U.length+2) (U.length+1) (dw (dn (i+1)++s.bounds.drop (i+1))) Y->Kp (fun _=>False) S1 Y->Y[Q]?=some (.arr [tv] 1 1)->Gr 1 (Q+1) ((dn i).map .str) tv Y->
      ∃tv' Z,dY Y 1 16 tv (.sl true [.str (iC tks s.frees (dn i) s.bounds[i] (s.bounds.drop (i+1)))])=some (tv',Z)/\Z[Q]?=some (.arr [tv] 1 1)/\tv'.cells=[tv']/\tv'.flat=true/\tv'.size=1/\Inv (i+1) tv' (Z.set Q (.arr [tv'] 1 1)):=fun i hi Y tv az kY hq hg=>by
    have lY:=aM hq;obtain⟨tv',Z,h1,h2,h3,h4⟩:=hg.app1 (bytes:=16) (y:=.str (iC tks s.frees (dn i) s.bounds[i] (s.bounds.drop (i+1)))) (b:=true) rfl (by rw[bu,yE i oM];omega) oM;have h5:(dn i).map V.str++[.str (iC tks s.frees (dn i) s.bounds[i] (s.bounds.drop (i+1)))]=(dn (i+1)).map .str:=by rw[dns i hi,cy];rfl
    rw[h5]at h2;have hf:=h2.rd.flat;have kZ:Kp (fun l=>Q<=l) Y Z:=⟨h3,fun l hl hn=>h4 l oM⟩;refine⟨tv',Z,h1,?_,hf.1,hf.2.1,hf.2.2,(hInv _ _ _).2 ⟨?_,?_,?_,?_⟩⟩
    · rw[h4 Q oM];exact hq
    · exact az.fr (M:=fun l=>Q<=l) (kZ.set _ (.inl bL)) fun l hl _=>lo l hl
    · have h6:Kp (fun _=>False) S1 Z:=⟨by have:=kY.len;omega,fun l hl hn=>by rw[h4 l (by have:=kX.len;omega)];exact kY.get l hl hn⟩;exact h6.set _ (.inr (by have:=kX.len;omega))
    · exact bJ oM
    · refine h2.keep fun l hl _=>?_
      rw[bC oM]
  refine du (fun e Y=>∃tv,Inv s.bounds.length tv Y/\e.get 2=some (.ptr S.length 0 0 1)/\e.get 4=some (.ptr (S.length+2) 0 0 1)/\e.get 10=some (.ptr Q 0 0 1)) ?_ ?_
  · refine bN (fun j e Y=>∃(i:Nat) (tv:V),j=s.bounds.length - i∧i≤s.bounds.length∧Inv i tv Y∧
      e=[(37,.int .i64 i),(36,.int .i64 s.bounds.length),(35,v),(10,.ptr Q 0 0 1),(7,.ptr (U.length+2) 0 0 1),(5,.ptr U.length 0 0 1),(4,.ptr (S.length+2) 0 0 1),(3,.ptr (S.length+1) 0 0 1),(2,.ptr S.length 0 0 1)]) s.bounds.length _ ?_ ⟨0,.sl true [],by simp,by omega,(hInv _ _ _).2 ⟨?_,?_,?_,?_⟩,rfl⟩ ?_
    · repeat' first|exact af.fh _|refine af.dV (by simp[g2,g3,g4,g5,g6,g7]) ?_
    · rw[FD,tD,eK];exact az.fr (M:=fun _=>False) ((Kp.refl _ _).push _) fun _ h=>h.elim
    · exact kX.push _
    · rw[hQ];simp
    · rw[FD];exact Gr.nil _ _ _
    rintro j e Y ⟨i,tv,rfl,hi,hI,rfl⟩;obtain⟨az,kY,hq,hg⟩:=(hInv _ _ _).1 hI;by_cases hlt:i<s.bounds.length
    · have hlt':i<h.2.length:=by rw[hh,hb2];exact hlt
      obtain⟨p,l,st,h1,h2,h3⟩:=az.co.at hlt';have hx:h.2[i]=s.bounds[i]:=by simp only[hh,hb2]
      rw[hx]at h3;have hap:iC tks s.frees (dn i) s.bounds[i] (s.bounds.drop (i+1))=if eN s.bounds[i] tks=true then pW s.bounds[i] (s.frees++(dn i++s.bounds[i]::s.bounds.drop (i+1))++tks) else s.bounds[i]:=rfl
      have hst:=step i hlt;have hdl:=yE i hi;have hds:=dns i hlt;have hdr:s.bounds.drop i=s.bounds[i]::s.bounds.drop (i+1):=rF hlt;have hxs:s.bounds[i].size<=16:=LG (s.Bc va _ (cI hlt));rw[hdr]at az;obtain⟨rest,hrest⟩:∃rest,rest=s.bounds.drop (i+1):=⟨_,rfl⟩;have hrl:rest.length=s.bounds.length-(i+1):=by rw[hrest,List.length_drop]
      obtain⟨x,hxx⟩:∃x,x=s.bounds[i]:=⟨_,rfl⟩;rw[<-hxx,<-hrest]at hap hst hds az;rw[<-hxx]at h3 hxs;unfold dZ at h3;have h4:ae Y (.ptr p 0 1 1) none=some (.str x):=by simp only[ae,h3];rfl
      have e1:=kY.at p1 id;have q3:ae Y (.ptr (S.length+1) 0 0 1) none=some (.map tk):=by simp[ae,e1,V.part,V.cells]
      have Z6:=kY.at pt id;have hlk:=Lm x Z6;have htf:=hg.rd.flat;have lq:∀{Z:St},Z[Q]?=some (.arr [tv] 1 1)->ae Z (.ptr Q 0 0 1) none=some tv:=fun hZ=>by simp[ae,hZ,htf]
      cases hin:eN x tks with
      |false=>
        rw[hin]at hap hlk;rw[aj sM]at hap;rw[hap]at hst hds;obtain⟨tv',Z,a1,a2,a3,a4,a5,a6⟩:=hst Y tv (by rw[hds,cO];exact az) kY hq hg;have sq:aA Z (.ptr Q 0 0 1) 1 tv'=some (Z.set Q (.arr [tv'] 1 1)):=by simp[aA,a2,ND htf.2.2 ⟨a3,a4,a5⟩]
        have hft:fits 1 [V.str x]=true:=rfl;simp[hlt,h1,h2,cF,h4,q3,aZ,hlk,lq hq,hft,a1,sq,bP i];refine⟨_,?_,_,?_,i+1,rfl,by omega,⟨tv',a6⟩,rfl⟩
        · omega
        · exact aN
      |true=>
        rw[hin]at hap hlk;rw[ai rfl]at hap;obtain⟨bs,ck,_,hm⟩:=az.co.fm;obtain⟨cur,hcur⟩:∃cur,cur=dn i++x::rest:=⟨_,rfl⟩;rw[<-hcur]at az hap
        have hcl:cur.length=s.bounds.length:=by
          have h8:=yE i oM;rw[hcur,cJ,eE];omega
        have hfk:h.1=dp (s.kP bg nC):=by rw[hh];rfl
        obtain⟨all,hall⟩:∃all,all=s.frees++cur++tks:=⟨_,rfl⟩;rw[<-hall]at hap;simp[hlt,h1,h2,cF,h4,q3,aZ,hlk];refine aU (qlF x 146 [.ptr (S.length+1) 0 0 1,.ptr U.length 0 0 1,.ptr (U.length+2) 0 0 1] (fun y=>eN y tks||eN y (h.1.foldl dQ [])||decide (0<dw cur y)) all Y (fun y=>qkr y e1 Z6 az.x5 hm az.x7 az.xm) (fun y=>?_) hxs ?_) ?_
        · rw[hfk,qel,hall];simp only[vy,jv,cR,RU,cC];constructor
          · rintro((hh|hh)|hh)<;>simp[hh]
          · rintro((hh|hh)|hh)<;>simp[hh]
        · rw[hall];simp;omega
        rintro r Y' ⟨⟨t,rfl,hfr⟩,rfl⟩;rw[BH hfr]at hap;rw[hap]at hst hds;have lm:∀{Z:St} {c:Bz->Int},Az h m c4 c5 c6 v ps F D U.length (U.length+2) (U.length+1) c Z->ae Z (.ptr (U.length+2) 0 0 1) none=some (.map (U.length+1)):=fun k=>by simp[ae,k.x7,V.part,V.cells]
        have lm0:=lm az;have hg0:=az.xm.get x;have hc0:=Bg x cur;obtain⟨o1,w1,EZ⟩:=az.put x (dw cur x-1);have Vn:=lm EZ;have hg1:=EZ.xm.get t;have hc1:=Bg t cur;have hc2:-1<=(if t=x then dw cur x-1 else dw cur t)/\(if t=x then dw cur x-1 else dw cur t)<=1000:=by split<;>omega
        obtain⟨o2,w2,vZ⟩:=EZ.put t ((if t=x then dw cur x-1 else dw cur t)+1)
        have hcs:(fun y=>if y=t then(if t=x then dw cur x-1 else dw cur t)+1 else if y=x then dw cur x-1 else dw cur y)=dw (dn i++t::rest):=by
          funext y;rw[hcur,qcf (dn i) rest x t y]
        rw[hcs]at vZ;obtain⟨Y1,wK⟩:∃Y1,Y1=Y'.set (U.length+1) o1:=⟨_,rfl⟩;rw[<-wK]at Vn hg1 w2 EZ vZ w1;obtain⟨Y2,hY2⟩:∃Y2,Y2=Y1.set (U.length+1) o2:=⟨_,rfl⟩;rw[<-hY2]at vZ w2;have kk:∀l,l≠U.length+1->Y2[l]?=Y'[l]?:=fun l hl=>by rw[hY2,bC (Ne.symm hl),wK,bC (Ne.symm hl)]
        have ll:Y2.length=Y'.length:=by rw[hY2,AG,wK,AG]
        have KX:Kp (fun _=>False) S1 Y2:=⟨by rw[ll];exact kY.len,fun l hl hn=>by rw[kk l oM];exact kY.get l hl hn⟩;have hq2:Y2[Q]?=some (.arr [tv] 1 1):=by rw[kk Q oM];exact hq
        have hg2:Gr 1 (Q+1) ((dn i).map .str) tv Y2:=hg.keep fun l hl _=>kk l oM
        obtain⟨tv',Z,a1,a2,a3,a4,a5,a6⟩:=hst Y2 tv (by rw[hds,cO];exact vZ) KX hq2 hg2;have sq:aA Z (.ptr Q 0 0 1) 1 tv'=some (Z.set Q (.arr [tv'] 1 1)):=by simp[aA,a2,ND htf.2.2 ⟨a3,a4,a5⟩]
        have hft:fits 1 [V.str t]=true:=rfl;have i1:=dP (n:=dw cur x-1) oM oM;have i2:=dP (n:=(if t=x then dw cur x-1 else dw cur t)+1) oM oM;simp[cF,lm0,h4,aZ,hg0,i1,w1];refine mg rfl rfl ?_;simp[Vn,aZ,hg1,i2,w2,lq hq2,hft,a1,sq,bP i];refine⟨_,?_,_,?_,i+1,rfl,by omega,⟨tv',a6⟩,rfl⟩
        · omega
        · exact aN
    · have:i=s.bounds.length:=by omega
      subst this;simp;exact⟨tv,hI⟩
  rintro e Y ⟨tv,hI,g2,g4,g10⟩;obtain⟨az,kY,hq,hg⟩:=(hInv _ _ _).1 hI;have hfin:dn s.bounds.length=fM tks s.frees [] s.bounds:=by rw[hdn];exact IC tks s.frees s.bounds []
  rw[hfin]at hg;obtain⟨L,hL⟩:∃L,L=fM tks s.frees [] s.bounds:=⟨_,rfl⟩;have hLl:L.length=s.bounds.length:=by rw[hL,IF];simp
  rw[<-hL]at hg |-;have e0:=kY.at p0 id;have e2:=kY.at p2 id;have lX1:=kX.len;have lQ:=aM hq
  have qdW:∀x n,tv=.arr x 0 n n->Q<x/\x<Y.length:=fun x n hx=>by
    rcases hg with ⟨_,rfl⟩|⟨l,wr,h1,rfl,h3,_⟩
    · cases hx
    · cases hx;exact⟨by omega,aM h3⟩
  have ap:Ap L Q tv (fun _=>False) (fun x=>x=Q∨∃n,tv=.arr x 0 n n) Y:=⟨fun _=>id,fun _=>Iff.rfl,hq,by
    rcases hg with ⟨h1,h2⟩|⟨l,wr,h1,h2,h3,h4⟩
    · exact .inl ⟨by simpa using h1,h2⟩
    · rw[bu]at h2 h4;exact .inr ⟨l,wr,h2,h3,h4⟩⟩
  obtain⟨Y1,wK⟩:∃Y1:St,Y1=Y++[.arr [.agg [.int .i64 0,.fn (.func 147) [] [.ptr Q 0 0 1],.bB,.bB]] 4 1]:=⟨_,rfl⟩;have w1:Y1[Y.length]?=some (.arr [.agg [.int .i64 0,.fn (.func 147) [] [.ptr Q 0 0 1],.bB,.bB]] 4 1):=by rw[wK];simp
  have Ci:Kp (fun _=>False) Y Y1:=by rw[wK];exact(Kp.refl _ _).push _
  have ld1:ae Y1 (.ptr S.length 0 0 1) (some 8)=some s.v:=by
    have:=Ci.at e0 id;simp[ae,this]
  have hw:Wk (IB L Q) Y.length 0 () (fun _=>False) (fun x=>x=Q\/∃n,tv=.arr x 0 n n) Y1:=⟨w1,⟨tv,ap.fr Ci fun _ hf=>hf.elim⟩,id,by rintro(h|⟨n,h⟩);omega;have:=qdW _ _ h;omega,trivial⟩;simp[g2,g4,g10,bz,bj,aE,HL,aC];rw[<-wK];simp[ld1];refine aU (M9 (IB L Q) (qa8 L Q oM) Y.length s hs oM () _ _ Y1 hw (by show Sm.aX [s]<=L.length;omega)) ?_;rintro r Z ⟨hr,F2,D2,kw,sw⟩;have hr':r=(s.whole (lf L)).v:=by rw[hr];exact congrArg Sm.v (Sm.qmB rfl rfl (fun _ _=>rfl) s va)
  have kZ:Kp (fun _=>False) S1 Z:=⟨by have:=kY.len;have:=Ci.len;have:=sw.k.len;omega,fun l hl hn=>by
    rw[sw.k.get l (by have:=kY.len;have:=Ci.len;omega) (by rintro(hh|hh);have:=kY.len;omega;exact hh),Ci.get l (by have:=kY.len;omega) id];exact kY.get l hl hn⟩
  have f2:=kZ.at p2 id;have BV:r.size=8/\r.cells.all V.flat=true/\V.part r 0 (some 8)=some r:=by rw[hr'];exact⟨Sm.eP _,by simp,sx _⟩
  have hst:aA Z (.ptr (S.length+2) 0 0 1) 8 r=some (Z.set (S.length+2) (.arr [r] 8 1)):=by simp[aA,f2,aE,BV]
  simp[hst,g4];have hz:(Z.set (S.length+2) (.arr [r] 8 1))[S.length+2]?=some (.arr [r] 8 1):=bJ (aM f2);exact aS (vs:=[r]) (by simp[dm,g4,ae,hz,BV]) ⟨hr',(kS.trans kZ).set _ (.inr oM)⟩
set_option maxHeartbeats 0
set_option maxRecDepth 100000
noncomputable def P8:=aI func47
def qbe{tk sR fr fr':List Bz}(h1:∀x,x∈tk↔x∈sR)(h2:∀x,x∈fr↔x∈fr')(done:List Bz)(x:Bz)(rest:List Bz):iC tk fr done x rest=iC sR fr' done x rest:=by
 have hi:eN x tk=eN x sR:=by rw[dq,jv,jv];exact h1 x
 have hf:pW x (fr++(done++x::rest)++tk)=pW x (fr'++(done++x::rest)++sR):=qeo fun y=>by
  simp only[cC,h1,h2]
 unfold iC;rw[hi,hf]
def EX{tk sR fr fr':List Bz}(h1:∀x,x∈tk↔x∈sR)(h2:∀x,x∈fr↔x∈fr'):∀(rest done:List Bz),fM tk fr done rest=fM sR fr' done rest
 |[],done=>by simp[fM]
 |x::rest,done=>by rw[fM,fM,qbe h1 h2,EX h1 h2 rest]
def Sm.fE(s:Sm)(taken:List Bz):List Bz:=fM (taken.foldl dQ []) s.frees [] s.bounds
def Sm.IK(s:Sm)(taken:List Bz):(s.fE taken).length=Sm.aX [s]:=by
 unfold Sm.fE;rw[IF,s.tN];simp
def qgv{l:List Bz}(h:∀x,x∈l->x.size<=16)(k:Nat):(lf l k).size<=aR:=by
 unfold lf
 cases hk:l[k]? with
 |none=>exact eL _
 |some x=>exact fL (h x (dc hk)) (by decide)
def Sm.ap(s:Sm)(taken:List Bz):Sm:=s.whole (lf (s.fE taken))
def ZL(x:Sm)(hx:x.ok)(S:St):au prog 82 [x.v] S (fun r U=>r=.aH [if(Pa.st x).err ar=0 then x.v else bX,.int .i64 ((Pa.st x).err ar)]/\Kp (fun _=>False) S U):=by
 refine au.ib Qs ?_;obtain⟨S1,hS1⟩:∃S1:St,S1=S++[.arr [x.v] 8 1,.arr [bX] 8 1]:=⟨_,rfl⟩;have b0:S1[S.length]?=some (.arr [x.v] 8 1):=by rw[hS1];simp
 have b1:S1[S.length+1]?=some (.arr [bX] 8 1):=by rw[hS1,bK oM];simp
 have kS:Kp (fun _=>False) S S1:=by rw[hS1];exact(Kp.refl _ _).push _
 have d0:ae S1 (.ptr S.length 0 0 1) (some 8)=some x.v:=by simp[ae,b0]
 simp[Qs,aC];rw[<-hS1];simp[d0];refine aG (ZH x hx S1) ?_;by_cases h0:(Pa.st x).err ar=0
 .simp[h0,d0,aA,b1,aE];have hz:(S1.set (S.length+1) (.arr [x.v] 8 1))[S.length+1]?=some (.arr [x.v] 8 1):=bJ (aM b1);exact aS (vs:=[x.v,.int .i64 0]) (by simp[dm,ae,hz]) ⟨rfl,kS.set _ (.inr oM)⟩
 .simp[h0,bz,bj,aA,b1,aE];have hz:(S1.set (S.length+1) (.arr [bX] 8 1))[S.length+1]?=some (.arr [bX] 8 1):=bJ (aM b1);exact aS (vs:=[bX,.int .i64 ((Pa.st x).err ar)]) (by simp[dm,ae,hz,cH]) ⟨rfl,kS.set _ (.inr oM)⟩
def gg.new{x:Bz}{all:List Bz}{t:Bz}(h:gg x all t):t∉all:=by
 rcases h with ⟨h,rfl⟩|⟨_,n,_,rfl,h,_⟩
 .exact h
 .exact h
def qbb{tk fr done rest:List Bz}{x:Bz}(hl:fr.length+(done.length+(rest.length+1))+tk.length<=899):
  (iC tk fr done x rest=x/\x∉tk)\/iC tk fr done x rest∉fr++(done++x::rest)++tk:=by
 unfold iC;split
 .obtain⟨t,ht⟩:=gg.exists x (fr++(done++x::rest)++tk) (by simp only[cJ,eE];omega);rw[BH ht];exact .inr ht.new
 .rename_i h;exact .inl ⟨rfl,fun hx=>h (jv.2 hx)⟩
structure Ed(tk fr od done rest:List Bz):Prop where
 len:done.length=od.length
 a:∀(j k:Nat) (x:Bz),done[j]?=some x->done[k]?=some x->od[j]?=od[k]?
 b:∀(j:Nat) (x:Bz),done[j]?=some x->x∈rest->od[j]?=some x
 c:∀(j:Nat) (x:Bz),done[j]?=some x->x∈fr->od[j]?=some x
 d:∀x,x∈done->x∉tk
def Hz{l:List Bz}{y x:Bz}{j:Nat}(h:(l++[y])[j]?=some x):l[j]?=some x\/(j=l.length/\x=y):=by
 by_cases hj:j<l.length
 .rw[b8 hj]at h;exact .inl h
 .rw[bK oM]at h;have:j-l.length=0:=by have:=(aT.1 h).1;simp at this;omega
  rw[this]at h;simp at h;exact .inr ⟨by omega,h.symm⟩
def Ro{tk fr:List Bz}:∀(rest od done:List Bz),Ed tk fr od done rest->fr.length+(done.length+rest.length)+tk.length<=899->Ed tk fr (od++rest) (fM tk fr done rest) []
 |[],od,done,i,_=>by rw[fM,kR];exact i
 |y::rest,od,done,i,hl=>by
  rw[fM,show od++y::rest=(od++[y])++rest by simp];rw[eE]at hl;have hn:=qbb (tk:=tk) (fr:=fr) (done:=done) (rest:=rest) (x:=y) oM;refine Ro rest _ _ ?_ (by simp;omega);obtain⟨t,ht⟩:∃t,t=iC tk fr done y rest:=⟨_,rfl⟩;rw[<-ht]at hn |-;have hlen:=i.len;have hod:(od++[y])[od.length]?=some y:=by simp
  have old:∀(j:Nat) (x:Bz),done[j]?=some x->(od++[y])[j]?=od[j]?:=fun j x h=>by
   have:=(aT.1 h).1;rw[b8 oM]
  have hnew:∀(j:Nat),done[j]?=some t->od[j]?=some y:=fun j h=>by
   rcases hn with ⟨h1,_⟩|h1
   .rw[h1]at h;exact i.b j y h sM
   .exact absurd (by have:=dc h;simp[this]) h1
  refine⟨by simp[hlen],fun j k x h1 h2=>?_,fun j x h1 h2=>?_,fun j x h1 h2=>?_,fun x h1=>?_⟩
  .rcases Hz h1 with g1|⟨g1,e1⟩<;>rcases Hz h2 with g2|⟨g2,e2⟩
   .rw[old j x g1,old k x g2];exact i.a j k x g1 g2
   .rw[old j x g1,g2,hlen,hod];exact hnew j (e2 ▸ g1)
   .rw[old k x g2,g1,hlen,hod];exact(hnew k (e1 ▸ g2)).symm
   .rw[g1,g2]
  .rcases Hz h1 with g1|⟨g1,e1⟩
   .rw[old j x g1];exact i.b j x g1 (by simp[h2])
   .rw[g1,hlen,hod,e1];rcases hn with ⟨g,_⟩| g
    .rw[g]
    .exact absurd (by rw[<-e1];simp[h2]) g
  .rcases Hz h1 with g1|⟨g1,e1⟩
   .rw[old j x g1];exact i.c j x g1 h2
   .rw[g1,hlen,hod,e1];rcases hn with ⟨g,_⟩| g
    .rw[g]
    .exact absurd (by rw[<-e1];simp[h2]) g
  .rcases cC.1 h1 with h1|h1
   .exact i.d x h1
   .simp at h1;rw[h1];rcases hn with ⟨g,g2⟩| g
    .rw[g];exact g2
    .exact fun hh=>g (by simp[hh])
def qa9{tk fr l:List Bz}(hl:fr.length+l.length+tk.length<=899):Ed tk fr l (fM tk fr [] l) []:=
 Ro l [] [] ⟨rfl,by simp,by simp,by simp,by simp⟩ (by simp;omega)
def VI{x:Bz}(h:ar x=true):x≠⟨⟨[]⟩⟩:=fun hx=>by
 rw[hx]at h;simp[ar,ByteArray.size]at h
def qgw{l:List Bz}{j:Nat}{x:Bz}(h:lf l j=x)(hx:x≠⟨⟨[]⟩⟩):l[j]?=some x:=by
 unfold lf at h
 cases hg:l[j]? with
 |none=>rw[hg]at h;exact absurd h.symm hx
 |some y=>rw[hg]at h;rw[<-h];rfl
def CN{l:List Bz}{j:Nat}{x:Bz}(h:l[j]?=some x):lf l j=x:=by unfold lf;rw[h];rfl
def qgt(l:List Bz):iw (lf l) 0 l:=fun i x h=>by rw[iQ];exact CN h
def Sm.IL(s:Sm){taken:List Bz}(hl:s.frees.length+Sm.aX [s]+taken.length<=899):Ed (taken.foldl dQ []) s.frees s.bounds (s.fE taken) []:=by
 have h1:=zb (l:=taken) (ks:=[]);have h2:=s.tN;simp only[kj]at h1;exact qa9 oM
def qcD(n:Nat):fk n≠[]:=by
 by_cases h:n<10
 .rw[rO h];simp
 .rw[rP h];simp
def qbN(x:Bz)(n:Nat):fF x n≠⟨⟨[]⟩⟩:=fun h=>by
 have:=congrArg (fun b:Bz=>b.data.toList) h;simp[fF,qcD]at this
def qbc{tk fr done rest:List Bz}{x:Bz}(hx:x≠⟨⟨[]⟩⟩):iC tk fr done x rest≠⟨⟨[]⟩⟩:=by
 unfold iC;split
 .unfold pW LY;split
  .rename_i h;rcases Classical.choose_spec h with ⟨_,g⟩|⟨_,n,_,g,_⟩
   .rw[g];exact hx
   .rw[g];exact qbN x n
  .exact hx
 .exact hx
def Rr{tk fr:List Bz}:∀(rest done:List Bz),(∀x,x∈done->x≠⟨⟨[]⟩⟩)->(∀x,x∈rest->x≠⟨⟨[]⟩⟩)->∀x,x∈fM tk fr done rest->x≠⟨⟨[]⟩⟩
 |[],done,h,_=>by rw[fM];exact h
 |y::rest,done,h,g=>by
  rw[fM];refine Rr rest _ (fun x hx=>?_) fun x hx=>g x (by simp[hx])
  rcases cC.1 hx with hx|hx
  .exact h x hx
  .simp at hx;rw[hx];exact qbc (g y sM)
def qgu(l:List Bz):(List.range' 0 l.length).map (lf l)=l:=by
 refine ou fun i=>?_
 rw[dS];by_cases h:i<l.length
 .rw[List.getElem?_range' h,bI h,dM,iQ,Nat.one_mul,CN (bI h)]
 .rw[mb (by simpa using h),mb oM];rfl
set_option linter.unusedSectionVars false
section
variable {s:Sm} {taken:List Bz} (va:(Pa.st s).valid ar=true) (hl:s.frees.length+Sm.aX [s]+taken.length<=899)
include va hl
theorem Sm.EY:∀j k,lf (s.fE taken) j=lf (s.fE taken) k->lf s.bounds j=lf s.bounds k:=fun j k h=>by
 have hi:=s.IL (taken:=taken) hl;have hp:∀x,x∈s.fE taken->x≠⟨⟨[]⟩⟩:=Rr _ _ sM fun x hx=>VI (s.Bc va x hx)
 cases hj:(s.fE taken)[j]? with
 |none=>
  cases hk:(s.fE taken)[k]? with
  |none=>
   have h1:=Ir.1 hj;have h2:=Ir.1 hk;rw[hi.len]at h1 h2;unfold lf;rw[mb h1,mb h2]
  |some y=>
   rw[CN hk]at h;unfold lf at h;rw[hj]at h;exact absurd h.symm (hp y (dc hk))
 |some x=>
  rw[CN hj]at h;have h2:=hi.a j k x hj (qgw h.symm (hp x (dc hj)));unfold lf;rw[h2]
theorem Sm.IJ:iw (lf s.bounds) 0 (bY s.labels++s.bn):=qgt _
theorem Sm.qmD:ik (lf s.bounds) [ah s.labels 0]:=ik.cons (sc:=[]) (fun s hs=>by cases hs) (IJ va hl).fst
theorem Sm.Jd:iw (lf s.bounds) (ah s.labels 0).length s.bn:=by
 have:=(IJ va hl).snd;rwa [iW,iQ]at this
theorem Sm.qbg:(s.ap taken).labels=s.labels.map (dt (lf (s.fE taken)) [ah s.labels 0]):=Sm.NL _ _ _ _
theorem Sm.Ru:ah (s.ap taken).labels 0=kC (lf (s.fE taken)) (ah s.labels 0):=by
 rw[qbg va hl];exact RB (EY va hl) (IJ va hl).fst
theorem Sm.Rw:(s.ap taken).bounds=s.fE taken:=by
 have h1:=EY va hl;have hi:=s.IL (taken:=taken) hl;unfold Sm.bounds;rw[VK 0,Ru va hl];have h2:=Sm.yv h1 s [ah s.labels 0] (ah s.labels 0).length (Jd va hl);rw[show(s.ap taken).bn=_ from h2]
 have h3:(kC (lf (s.fE taken)) (ah s.labels 0)).map (·.1)=(List.range' 0 (ah s.labels 0).length).map (lf (s.fE taken)):=by
  rw[<-RD];unfold kC;rw[lu,lu];rfl
 have h4:=rH (s:=0) (m:=(ah s.labels 0).length) (n:=s.nb);rw[iQ]at h4
 have h5:(ah s.labels 0).length+s.nb=(s.fE taken).length:=by
  rw[hi.len,Sm.bounds,cJ,iW,Sm.jR]
 rw[h3,<-cy,h4,h5,qgu]
theorem Sm.qbh:(s.ap taken).nb=s.nb:=Sm.qg2 (EY va hl) s _ _ (Jd va hl)
end
structure Ix(p:Pw):Prop where
 ok:∀g,p.nm=some g->∀(x:Ex) sc tg,x.ok->(g x sc tg).ok
 f:∀k x,x.size<=aR->(p.f k x).size<=aR
 cl:∀c,p.cl=some c->∀x sc,x.size<=aR->(c x sc).size<=aR
structure Shp(p:Pw):Prop extends Ix p where
 le:∀g,p.nm=some g->∀x sc tg,(Pa.ex (g x sc tg)).le (.ex x)
section
variable {p:Pw} (i:Shp p)
include i
end
section
variable {p:Pw} (i:Ix p)
include i
theorem Ds(sc:ag){x:Bz}(hx:x.size<=aR):(fH p sc x).size<=aR:=by
 unfold fH
 cases sc.at x with
 |none=>exact hx
 |some k=>exact i.f k x hx
mutual
theorem Ex.pq(sc:ag)(tg:Bool):∀x:Ex,x.ok->(x.wr p sc tg).ok
 |.mk k o n m e t a,v=>by
  obtain⟨h1,h2,h3⟩:=v;have h4:∀t':Bz,t'.size<=aR->(Ex.mk k o n m e t' (Ex.aL p sc false a)).ok:=fun t' ht=>⟨ht,by rw[Ex.tp,bu];exact h2,Ex.l6 sc false a h3⟩
  rw[Ex.wr];unfold Pw.qg;split
  .split
   .exact h4 _ (Ds i sc h1)
   .rename_i g hg;exact i.ok g hg _ _ _ (h4 _ h1)
  .exact h4 _ h1
theorem Ex.l6(sc:ag)(tg:Bool):∀l:List Ex,Ex.bR l->Ex.bR (Ex.aL p sc tg l)
 |[],_=>trivial
 |x::l,⟨h1,h2⟩=>⟨Ex.pq sc tg x h1,Ex.l6 sc tg l h2⟩
end
theorem El.pq(sc:ag)(e:El)(v:e.ok):(e.wr p sc).ok:=
 ⟨by unfold El.wr;rw[Ex.tp,bu];exact v.1,Ex.l6 i sc false e.ak v.2⟩
omit i in
theorem Sm.tn(sc:ag):∀(m:List Sm) (n:Nat),(Sm.aL p sc n m).length=m.length
 |[],_=>by rw[Sm.aL]
 |x::m,n=>by simp only[Sm.aL,eE,Sm.tn sc m]
omit i in
theorem Sm.Ad(sc:ag):∀(m:List Sm) (n:Nat),(Sm.dW p sc n m).length=m.length
 |[],_=>by rw[Sm.dW]
 |x::m,n=>by simp only[Sm.dW,eE,Sm.Ad sc m]
omit i in
theorem De.tn(own sc:ag):∀(m:List De) (n:Nat),(De.aL p own sc n m).length=m.length
 |[],_=>by rw[De.aL]
 |x::m,n=>by simp only[De.aL,eE,De.tn own sc m]
mutual
theorem Sm.pq:∀(s:Sm) (sc:ag) (n:Nat),s.ok->(s.wr p sc n).ok
 |.mk l k t gs e hh d b,sc,n,v=>by
  have V:=(Sm.ep _).1 v;have hl:=GZ V.labels fun x hx=>Ds i sc (V.labels.2 x hx)
  have hg:gs.length<=aR->(Ex.aL p sc true gs).length<=aR:=fun h=>by rw[Ex.tp,bu];exact h
  rw[Sm.wr];split
  .refine(Sm.ep _).2 ⟨hl,V.text,⟨hg V.targets.1,Ex.l6 i sc true gs V.targets.2⟩,V.ak,V.elems,⟨?_,De.l6 d _ _ _ V.decls.2⟩,?_,Sm.l6 b _ _ V.body.2⟩
   .have:=V.decls.1;simp only[Sm.decls]at this |-;rw[De.tn];exact this
   .have:=V.body.1;simp only[Sm.body]at this |-;rw[Sm.tn];exact this
  .split
   .refine(Sm.ep _).2 ⟨hl,V.text,⟨hg V.targets.1,Ex.l6 i sc true gs V.targets.2⟩,V.ak,V.elems,V.decls,?_,Sm.l6 b _ _ V.body.2⟩;have:=V.body.1;simp only[Sm.body]at this |-;rw[Sm.tn];exact this
   .refine(Sm.ep _).2 ⟨hl,?_,⟨hg V.targets.1,Ex.l6 i sc true gs V.targets.2⟩,⟨?_,Ex.l6 i sc false e V.ak.2⟩,⟨?_,?_⟩,V.decls,?_,Sm.NQ b _ _ V.body.2⟩
    .have:=V.text;simp only[Sm.text]at this |-;unfold Pw.oN;split
     .split
      .exact Ds i sc this
      .rename_i c hc;exact i.cl c hc _ _ this
     .exact this
    .have:=V.ak.1;simp only[Sm.ak]at this |-;rw[Ex.tp,bu];exact this
    .have:=V.elems.1;simp only[Sm.elems]at this |-;rw[bu];exact this
    .intro x hx;simp only[Sm.elems]at hx;obtain⟨y,hy,rfl⟩:=cE.1 hx;exact El.pq i sc y (V.elems.2 y hy)
    .have:=V.body.1;simp only[Sm.body]at this |-;rw[Sm.Ad];exact this
theorem De.pq:∀(s:De) (own sc:ag) (n:Nat),s.ok->(s.wr p own sc n).ok
 |.mk k o t ns e fo b,own,sc,n,v=>by
  have V:=(De.ep _).1 v;have hl:=GZ V.names fun x hx=>Ds i own (V.names.2 x hx)
  have he:∀sc,e.length<=aR->(Ex.aL p sc false e).length<=aR:=fun sc h=>by rw[Ex.tp,bu];exact h
  rw[De.wr];split
  .refine(De.ep _).2 ⟨hl,⟨he own V.ak.1,Ex.l6 i own false e V.ak.2⟩,⟨?_,?_⟩,?_,Sm.NQ b _ _ V.body.2⟩
   .have:=V.aB.1;simp only[De.aB]at this |-;rw[bu];exact this
   .intro x hx;simp only[De.aB]at hx;obtain⟨y,hy,rfl⟩:=cE.1 hx;exact Ds i _ (V.aB.2 y hy)
   .have:=V.body.1;simp only[De.body]at this |-;rw[Sm.Ad];exact this
  .exact(De.ep _).2 ⟨hl,⟨he _ V.ak.1,Ex.l6 i _ false e V.ak.2⟩,V.aB,V.body⟩
theorem De.l6:∀(l:List De) (own sc:ag) (n:Nat),De.bR l->De.bR (De.aL p own sc n l)
 |[],_,_,_,_=>by rw[De.aL];exact trivial
 |x::l,own,sc,n,v=>by
  rw[De.bR]at v;rw[De.aL,De.bR];exact⟨De.pq x own sc n v.1,De.l6 l own sc _ v.2⟩
theorem Sm.l6:∀(l:List Sm) (sc:ag) (n:Nat),Sm.bR l->Sm.bR (Sm.aL p sc n l)
 |[],_,_,_=>by rw[Sm.aL];exact trivial
 |x::l,sc,n,v=>by
  rw[Sm.bR]at v;rw[Sm.aL,Sm.bR];exact⟨Sm.pq x sc n v.1,Sm.l6 l sc _ v.2⟩
theorem Sm.NQ:∀(l:List Sm) (sc:ag) (n:Nat),Sm.bR l->Sm.bR (Sm.dW p sc n l)
 |[],_,_,_=>by rw[Sm.dW];exact trivial
 |x::l,sc,n,v=>by
  rw[Sm.bR]at v;rw[Sm.dW,Sm.bR];exact⟨Sm.pq x _ _ v.1,Sm.NQ l sc _ v.2⟩
end
theorem Sm.NN(s:Sm)(v:s.ok):(s.mI p).ok:=Sm.pq i s _ _ v
end
end Go.Proofs.YtbifpocccfkhhaaGreatDoor
end
