/- A part. -/
import Derived.Test.YtbifpocccfkhhaaGreatDoorWl
set_option linter.all false
noncomputable section
namespace Go.Proofs.YtbifpocccfkhhaaGreatDoor
open Go Go.Proofs.Tryz
def rr:Pw where
 H:=List Bz
 f _ x:=x
 nm:=some fun x _ _=>x
 cl:=none
 ent h _ _:=h
 oZ h x _ _:=h++[x.text]
 lC h _ _:=h
structure Us(m c:Nat)(h:List Bz)(F D:Np)(U:St):Prop where
 fc:U[c]?=some (.arr [.map m] 1 1)
 fm:∃bs ck,(fu bs ck/\bs.length=(h.foldl dQ []).length)/\U[m]?=some (.map ((h.foldl dQ []).map kv) bs ck)
 hF:∀l,F l↔l=m
 hD:∀l,D l↔l=c
def NF(m c:Nat):Cb where
 toPw:=rr
 fe:=.bB
 fn:=.fn (.func 133) [] [.ptr c 0 0 1]
 fc:=.bB
 I h F D U:=Us m c h F D U
 cn _ _:=True
 lim:=100001
section
variable {m c:Nat} {h:List Bz} {F D:Np} {U:St}
theorem Us.fr{U':St}{M:Np}(k:Us m c h F D U)(hk:Kp M U U')(hM:∀l,M l->l<U.length->¬F l/\¬D l):Us m c h F D U':=by
 obtain⟨bs,ck,hst,hm⟩:=k.fm;exact⟨hk.at k.fc fun hh=>(hM _ hh (aM k.fc)).2 ((k.hD _).2 rfl),⟨bs,ck,hst,hk.at hm fun hh=>(hM _ hh (aM hm)).1 ((k.hF _).2 rfl)⟩,k.hF,k.hD⟩
theorem Us.use(k:Us m c h F D U)(h':List Bz){bs:List Nat}{ck:Nat}(hst:fu bs ck/\bs.length=(h'.foldl dQ []).length):Us m c h' F D (U.set m (.map ((h'.foldl dQ []).map kv) bs ck)):=by
 obtain⟨bs0,ck0,_,hm⟩:=k.fm;refine⟨?_,⟨bs,ck,hst,bJ (aM hm)⟩,k.hF,k.hD⟩;rw[bC (qV hm k.fc sM)];exact k.fc
theorem qkp(k:Us m c h F D U)(x:Ex)(v:V)(tg:Bool):
  au prog 133 [x.v,v,.bool tg,.ptr c 0 0 1] U (fun r U'=>r=x.v/\Us m c (h++[x.text]) F D U'/\Kp F U U'):=by
 refine au.ib Ov ?_;simp[Ov,aC];obtain⟨U1,dl⟩:∃U1:St,U1=U++[.arr [x.v] 7 1,.arr [.agg [.int .i64 0,.int .i64 0,.int .i64 0,.int .i64 0,.int .i64 0,.str ⟨⟨[]⟩⟩,.sl true []]] 7 1]:=⟨_,rfl⟩;rw[<-dl];have l1:U1.length=U.length+2:=by rw[dl];simp
 have b0:U1[U.length]?=some (.arr [x.v] 7 1):=by rw[dl];simp
 have b1:U1[U.length+1]?=some (.arr [.agg [.int .i64 0,.int .i64 0,.int .i64 0,.int .i64 0,.int .i64 0,.str ⟨⟨[]⟩⟩,.sl true []]] 7 1):=by rw[dl,bK oM];simp
 have lG:Kp F U U1:=by rw[dl];exact(Kp.refl _ _).push _
 have k1:Us m c h F D U1:=by rw[dl];exact k.fr (M:=fun _=>False) ((Kp.refl _ _).push _) fun _ h=>h.elim
 clear dl;have h6:=k1.fc;obtain⟨bs,ck,hst,hm⟩:=k1.fm;have lm:=aM k.fm.choose_spec.choose_spec.2;have lc:=aM k.fc;have hft:fits 1 [V.str x.text]=true:=rfl;simp[ae,h6,b0,hft];refine aU (ZK true [x.text] _ bs ck m U1 sM hm) ?_;rintro r U2 ⟨bs',gG,hst',Kr,rfl⟩;have k2:=k1.use (h++[x.text]) (bs:=bs') (ck:=gG) ⟨hst' hst.1,by rw[pG];exact Kr hst.2⟩;rw[pG]at k2
 have g:∀{l o},U1[l]?=some o->l≠m->(U1.set m (.map (([x.text].foldl dQ (h.foldl dQ [])).map kv) bs' gG))[l]?=some o:=fun {l o} ho hl=>by
  rw[bC (Ne.symm hl)];exact ho
 have c0:=g b0 oM;have c1:=g b1 oM;have lH:Kp F U (U1.set m (.map (([x.text].foldl dQ (h.foldl dQ [])).map kv) bs' gG)):=lG.set _ (.inl ((k.hF m).2 rfl));obtain⟨U2,cA⟩:∃U2,U2=U1.set m (.map (([x.text].foldl dQ (h.foldl dQ [])).map kv) bs' gG):=⟨_,rfl⟩;rw[<-cA]at c0 c1 k2 lH |-;simp[ae,c0,aA,c1,aE];have hz:(U2.set (U.length+1) (.arr [x.v] 7 1))[U.length+1]?=some (.arr [x.v] 7 1):=bJ (aM c1);refine aS (vs:=[x.v]) (by simp[dm,ae,hz]) ⟨rfl,k2.fr (M:=fun l=>l=U.length+1) ((Kp.refl _ _).set _ (.inl rfl)) fun l hl _=>⟨fun hf=>?_,fun hf=>?_⟩,lH.set _ (.inr oM)⟩
 .have:=(k.hF _).1 hf;omega
 .have:=(k.hD _).1 hf;omega
end
def qlR(n:Nat):fu (List.range n) n/\(List.range n).length=n:=⟨⟨fun b hb=>vP.1 hb,List.nodup_range⟩,List.length_range⟩
theorem qmn(m c:Nat):(NF m c).Ok where
 lim:=cq _
 lt:=fun {h F D S} k l hl=>by
  have k:Us m c h F D S:=k;rcases hl with hl|hl
  .obtain⟨_,_,_,hm⟩:=k.fm;rw[(k.hF l).1 hl];exact aM hm
  .rw[(k.hD l).1 hl];exact aM k.fc
 fr:=fun k hk hM=>Us.fr k hk hM
 lp:=fun {h F D S} k l o ho=>by
  have k:Us m c h F D S:=k;refine⟨fun hf=>?_,fun hf=>?_⟩
  .obtain⟨_,_,_,hm⟩:=k.fm;rw[(k.hF l).1 hf,hm]at ho;cases ho
  .rw[(k.hD l).1 hf,k.fc]at ho;cases ho
 ce _ _:=trivial
 cm _ _ _ _:=trivial
 cc _ _ _:=trivial
 real:=fun {h F D S} k h'=>⟨F,D,_,Us.use k h' (qlR _),(Kp.refl _ _).set _ (.inl ((k.hF m).2 rfl)),grow.refl _ _,grow.refl _ _⟩
 en:=.inl ⟨rfl,fun _ _=>rfl,fun _ _ _=>rfl⟩
 nm:=⟨133,[.ptr c 0 0 1],rfl,fun U x w ts tg w' h F D hsc k=>au.mono (qkp k x w tg) fun r U' ⟨a,b,c⟩=>⟨a,F,D,b,c,grow.refl _ _,grow.refl _ _⟩⟩
 cl:=rfl
def ru(h:rr.H):List Bz:=h
def NG:rr.H:=([]:List Bz)
def qmo(sc:ag)(tg:Bool)(h:rr.H)(k o n m e:Int)(t:Bz)(a:List Ex):ru (rr.mD sc tg h (.mk k o n m e t a))=if Ex.named k=true then ru h++[t] else ru h:=by
 show ru (if Ex.named k=true then _ else _)=_;split<;>rfl
mutual
theorem Ex.qfg(sc:ag)(tg:Bool):∀(x:Ex) (h:rr.H),ru (Ex.hs rr sc tg h x)=ru h++Ex.eo x
 |.mk k o n m e t a,h=>by
  rw[Ex.hs,qmo,Ex.Kz sc false a h,Ex.eo];split<;>simp
theorem Ex.Kz(sc:ag)(tg:Bool):∀(l:List Ex) (h:rr.H),ru (Ex.hsl rr sc tg h l)=ru h++Ex.cf l
 |[],h=>by simp[Ex.hsl,Ex.cf]
 |x::l,h=>by rw[Ex.hsl,Ex.Kz sc tg l,Ex.qfg sc tg x,Ex.cf,cO]
end
mutual
theorem Ex.LP:∀(x:Ex),(Ex.eo x).length<=(Pa.ex x).size
 |.mk k o n m e t a=>by
  have h1:=Ex.VT a;have hz:=Pa.size_eq (.ex (.mk k o n m e t a));simp only[Pa.own,Pa.kids,Ex.args]at hz;rw[Ex.eo,cJ];split
  .simp only[List.length_singleton];omega
  .simp only[kj];omega
theorem Ex.VT:∀(l:List Ex),(Ex.cf l).length<=aY (l.map Pa.ex)
 |[]=>by simp[Ex.cf]
 |x::l=>by
  have h1:=Ex.LP x;have h2:=Ex.VT l;rw[Ex.cf,cJ,b9,fq];omega
end
def qlE(b:Bool)(l:List Ex)(hl:aY (l.map Pa.ex)<=4000)(S:St):
  au prog 74 [.sl b (l.map Ex.v)] S (fun r U=>∃m bs ck,r=.map m/\(fu bs ck/\bs.length=((Ex.cf l).foldl dQ []).length)/\U[m]?=some (.map (((Ex.cf l).foldl dQ []).map kv) bs ck)/\Kp (fun _=>False) S U/\S.length<=m):=by
 refine au.vn ?_;simp only[V.cr,V.weak,jq];refine au.ib Qn ?_;simp[Qn,aC,ae,aA,aE,bj,bz,aZ,NE,HL];obtain⟨B,hB⟩:∃B,B=S.length:=⟨_,rfl⟩;obtain⟨S1,hS1⟩:∃S1:St,S1=S++[.map [] [] 0,.arr [.map B] 1 1,.arr [.agg [.int .i64 0,.bB,.fn (.func 133) [] [.ptr (B+1) 0 0 1],.bB]] 4 1]:=⟨_,rfl⟩;rw[<-hB,<-hS1];have l1:S1.length=B+3:=by rw[hS1,hB];simp
 have b0:S1[B]?=some (.map [] [] 0):=by rw[hS1,hB];simp
 have b1:S1[B+1]?=some (.arr [.map B] 1 1):=by rw[hS1,hB,bK oM];simp
 have b2:S1[B+2]?=some (.arr [.agg [.int .i64 0,.bB,.fn (.func 133) [] [.ptr (B+1) 0 0 1],.bB]] 4 1):=by rw[hS1,hB,bK oM];simp
 have kS:Kp (fun _=>False) S S1:=by rw[hS1];exact(Kp.refl _ _).push _
 have k1:Us B (B+1) [] (fun l=>l=B) (fun l=>l=B+1) S1:=⟨b1,⟨[],0,⟨fu.nil,rfl⟩,b0⟩,fun _=>Iff.rfl,fun _=>Iff.rfl⟩;have hw:Wk (NF B (B+1)) (B+2) 0 ([]:List Bz) (fun l=>l=B) (fun l=>l=B+1) S1:=⟨b2,k1,by omega,by omega,trivial⟩;clear hS1 k1;refine aU (DI (NF B (B+1)) (qmn _ _) (B+2) l hl 0 ([]:List Bz) _ _ S1 .bF [] false hw rfl) ?_;rintro r U ⟨rfl,F2,D2,k2,s2⟩;have kk:Us B (B+1) (ru (Ex.hsl rr (am []) false NG l)) F2 D2 U:=k2.st;rw[Ex.Kz (am []) false l NG]at kk;have he:ru NG++Ex.cf l=Ex.cf l:=rfl;rw[he]at kk;have h4:=kk.fc;obtain⟨bs,ck,hst,hm⟩:=kk.fm;simp[ae,h4];refine aS rfl ⟨B,rfl,bs,ck,hst,hm,⟨fL kS.len s2.k.len,fun l hl hn=>?_⟩,by omega⟩;rw[s2.k.get l (by have:=kS.len;omega) (by rintro(hh|hh)<;>omega)];exact kS.get l hl hn
def Lss(v v':V):Prop:=v'.cells.length=v.cells.length/\∀(j:Nat) (c c':V),v.cells[j]?=some c->v'.cells[j]?=some c'->∀(E:En) (u:Value),VR E c u->VR E c' u
section
variable {S:St} {l sz wr:Nat} {xs ys:List V} (ho:S[l]?=some (.arr xs sz wr)) (hn:ys.length=xs.length) (hx:∀(i:Nat) (v v':V),xs[i]?=some v->ys[i]?=some v'->Lss v v')
include ho
include hn hx
end
def qhi{X:St}{L lm since last:Nat}{seen bs:List Nat}{es:List (V×V)}{ck:Nat}(h1:X[L]?=some (.iter lm since seen last))(h2:X[lm]?=some (.map es bs ck))(hb:∀b,b∈bs->b<since)(hs:since<=last):
  o8 X (.ptr L 0 0 0)=match (es.zip bs).filter fun q=>!seen.contains q.2 with
   |[]=>[(.aH [.bool false],X)]
   |c::cs=>(c::cs).map fun q=>(.aH [.bool true,q.1.1,q.1.2],X.set L (.iter lm since (seen++[q.2]) ck)):=by
 have hc:(bs.all fun b=>decide (b<since))=true/\since<=last:=⟨by simpa using hb,hs⟩;simp only[o8,h1,h2,ai hc];rfl
def qmQ{P:Program}{d:Option Nat}{it:aV}{os:List O'}{Q:af->St->Prop}{e:af}{X:St}{L lm since last:Nat}{seen bs:List Nat}{es:List (V×V)}{ck:Nat}
  (hit:it.ev e=some (.ptr L 0 0 0)) (h1:X[L]?=some (.iter lm since seen last)) (h2:X[lm]?=some (.map es bs ck)) (hb:∀b,b∈bs->b<since) (hs:since<=last) (hl:es.length=bs.length)
  (hA:(∀b,b∈bs->b∈seen)->dk P os Q (e.put d (.aH [.bool false])) X)
  (hB:∀(i:Nat) (k v:V) (b:Nat),es[i]?=some (k,v)->bs[i]?=some b->b∉seen->dk P os Q (e.put d (.aH [.bool true,k,v])) (X.set L (.iter lm since (seen++[b]) ck))):
  dk P (⟨d,none,.ex (.kG it)⟩::os) Q e X:=by
 rw[qao (by intro f a h;cases h)];have hev:br e X (.ex (.kG it))=none:=rfl;rw[hev];show(kF e (.ex (.kG it))≠[]/\_)\/_;refine .inr ?_;have hn:mC e X (.ex (.kG it))=o8 X (.ptr L 0 0 0):=by simp only[mC,hit]
 rw[hn,qhi h1 h2 hb hs]
 cases hf:(es.zip bs).filter fun q=>!seen.contains q.2 with
 |nil=>
  refine⟨by simp,fun q hq=>?_⟩;simp at hq;subst hq;refine hA fun b hbm=>?_
  obtain⟨i,hi⟩:=rG.1 hbm;have hlt:=(aT.1 hi).1;have hz:(es.zip bs)[i]?=some (es[i],b):=by rw[vM];exact⟨bI oM,hi⟩
  have h3:=List.filter_eq_nil_iff.1 hf _ (dc hz);simpa using h3
 |cons c cs=>
  refine⟨by simp,fun q hq=>?_⟩;obtain⟨p,hp,rfl⟩:=cE.1 hq;rw[<-hf]at hp;obtain⟨hp1,hp2⟩:=np.1 hp;obtain⟨i,hi⟩:=rG.1 hp1;rw[vM]at hi;exact hB i p.1.1 p.1.2 p.2 hi.1 hi.2 (by simpa using hp2)
def S4{X:St}{L lm since:Nat}{seen bs:List Nat}{es:List (V×V)}{ck i b:Nat}{k v:V}(h1:X[L]?=some (.iter lm since (seen++[b]) ck))(h2:X[lm]?=some (.map es bs ck))(nd:bs.Nodup)(hk:es[i]?=some (k,v))(hi:bs[i]?=some b):
  tQ X (.ptr L 0 0 0)=some (.aH [k,v]):=by
 have hf:(es.zip bs).find? (fun q=>q.2==b)=some ((k,v),b):=by
  have hz:(es.zip bs)[i]?=some ((k,v),b):=by rw[vM];exact⟨hk,hi⟩
  cases hq:(es.zip bs).find? (fun q=>q.2==b) with
  |none=>
   have:=vI.1 hq _ (dc hz);simp at this
  |some q=>
   have h3:=List.find?_some hq;simp at h3;obtain⟨j,hj⟩:=rG.1 (AH hq);have hj2:=hj;rw[vM]at hj2;rw[h3]at hj2;have hij:i=j:=(ED (aT.1 hi).1 nd).1 (hi.trans hj2.2.symm);subst hij;rw[<-hj,hz]
 simp only[tQ,h1,h2,ai (⟨rfl,nd⟩:ck=ck/\bs.Nodup),List.getLast?_concat];simp[hf,nd]
def QX{P:Program}{a c:Nat}{it:aV}{id:Nat}{body:C'}{Q:cM}{e e0:af}{S:St}{L lm since:Nat}{bs:List Nat}{es:List (V×V)}{ck:Nat}(J:List Nat->St->Prop)
  (hsub:af.sub e0 e) (hit:it.ev e0=some (.ptr L 0 0 0)) (hl:es.length=bs.length) (hb:∀b,b∈bs->b<since)
  (h0:J [] S) (hJ:∀seen X,J seen X->(∃last,since<=last/\X[L]?=some (.iter lm since seen last))/\X[lm]?=some (.map es bs ck))
  (fin:∀seen X,J seen X->(∀b,b∈bs->b∈seen)->Q (.exit id) ((c,.bool false)::(a,.aH [.bool false])::e0) X)
  (step:∀(seen:List Nat) (X:St) (i:Nat) (k v:V) (b:Nat),J seen X→es[i]?=some (k,v)→bs[i]?=some b→b∉seen→
   WP P body (jw (fun e' X'=>af.sub e0 e'/\J (seen++[b]) X') Q) ((c,.bool true)::(a,.aH [.bool true,k,v])::e0) (X.set L (.iter lm since (seen++[b]) ck))):
  WP P (.loop (.seq (.reg [⟨some a,none,.ex (.kG it)⟩,⟨some c,none,.ext 0 (.t a)⟩]) (.seq (.cond (.t c) .skip (.exit id)) body))) Q e S:=by
 refine bN (fun n e X=>e=e0/\∃seen,n=(bs.filter fun b=>!decide (b∈seen)).length/\J seen X) _ e0 hsub ⟨rfl,[],rfl,h0⟩ ?_;rintro n e X ⟨rfl,seen,rfl,hj⟩;obtain⟨⟨last,hla,h1⟩,h2⟩:=hJ _ _ hj;rw[vX,QY];refine qmQ hit h1 h2 hb hla hl (fun hall=>?_) fun i k v b hk hi hn=>?_
 .simp;exact fin seen X hj hall
 .simp;refine pN (fun x e' X' hx=>?_) (step seen X i k v b hj hk hi hn);cases x<;>simp only[jw]at hx |-<;>try exact hx
  obtain⟨h3,h4⟩:=hx;refine⟨_,?_,e,h3,rfl,seen++[b],rfl,h4⟩
  have h5:(bs.filter fun x=>!decide (x∈seen++[b]))=(bs.filter fun x=>!decide (x∈seen)).filter fun x=>!decide (x=b):=by
   rw[List.filter_filter];congr 1;funext x;simp[Bool.and_comm]
  rw[h5];exact List.length_filter_lt_length_iff_exists.2 ⟨b,np.2 ⟨dc hi,by simpa using hn⟩,by simp⟩
def jJ(l:List Bz)(es:List Ae):List Bz:=l++es.flatMap fun e=>e.2.eo
def Tk(T:Nat)(q:Bz->Prop)(X:St):Prop:=∃(ks:List Bz) (bs:List Nat) (ck:Nat),fu bs ck/\X[T]?=some (.map (ks.map kv) bs ck)/\ks.Nodup/\∀x,x∈ks↔q x
def Tk.keep{T:Nat}{q:Bz->Prop}{X Y:St}(h:Tk T q X)(hk:Y[T]?=X[T]?):Tk T q Y:=by
 obtain⟨ks,bs,ck,a,b,c⟩:=h;exact⟨ks,bs,ck,a,by rw[hk];exact b,c⟩
def Tk.same{T:Nat}{q q':Bz->Prop}{X:St}(h:Tk T q X)(hq:∀x,q x↔q' x):Tk T q' X:=by
 obtain⟨ks,bs,ck,a,b,c,d⟩:=h;exact⟨ks,bs,ck,a,b,c,fun x=>(d x).trans (hq x)⟩
def Tk.add{T:Nat}{q:Bz->Prop}{X:St}(h:Tk T q X)(b:Bool)(l:List Bz)(hl:l.length<=1000000):
  au prog 79 [.map T,.sl b (l.map .str)] X (fun _ U=>Tk T (fun x=>q x\/x∈l) U/\Kp (fun k=>k=T) X U/\U.length=X.length):=by
 obtain⟨ks,bs,ck,h1,h2,h3,h4⟩:=h;refine au.mono (ZJ b l ks bs ck T X hl h2) ?_;rintro r U ⟨bs',gG,hs,rfl⟩;exact⟨⟨l.foldl dQ ks,bs',gG,hs h1,bJ (aM h2),Gu h3,fun x=>by rw[qa,h4]⟩,(Kp.refl _ _).set _ (.inl rfl),by simp⟩
def Sm.qbq(s:Sm)(va:(Pa.st s).valid ar=true){taken:List Bz}(hl:s.frees.length+Sm.aX [s]+taken.length<=899):∀x,x∈s.fE taken->x.size<=16:=by
 refine Rt _ _ _ _ (fun x hx=>by simp at hx) (fun x hx=>LG (s.Bc va x hx)) ?_;have h1:=zb (l:=taken) (ks:=[]);have h3:=s.tN;simp only[kj]at h1 |-;omega
def Sm.IG(s:Sm)(hs:s.ok)(va:(Pa.st s).valid ar=true){taken:List Bz}(hl:s.frees.length+Sm.aX [s]+taken.length<=899):(s.ap taken).ok:=
 Sm.qmE (f:=lf (s.fE taken)) (N:=1000) (fun k _=>qgv (s.qbq va hl) k) s oM hs
def eX(s:Sm)(l:List Bz)(es:List Ae):Sm:=s.ap (jJ l es)
def nZ(s:Sm)(l:List Bz)(es:List Ae):Bool:=fP ((eX s l es).kP (db (cw es)) (false:Bool))
def jz(s:Sm)(l:List Bz)(es:List Ae):Sm:=(eX s l es).mI (db (cw es))
def qp(s:Sm)(l:List Bz)(es:List Ae):Int:=if(Pa.st (eX s l es)).err ar≠0 then(Pa.st (eX s l es)).err ar else if nZ s l es=true then 10 else(Pa.st (jz s l es)).err ar
def xU(s:Sm)(l:List Bz)(es:List Ae):V:=if qp s l es=0 then(jz s l es).v else bX
def VP:∀{ks L:List Bz},ks.Nodup->(∀x,x∈ks->x∈L)->ks.length<=L.length
 |[],_,_,_=>eL _
 |x::ks,L,nd,h=>by
  have nd:=List.nodup_cons.1 nd;have hx:=h x sM;have:=VP (L:=L.filter fun y=>decide (y≠x)) nd.2 fun y hy=>np.2 ⟨h y (by simp[hy]),by simpa using fun e:y=x=>nd.1 (e ▸ hy)⟩
  have h2:=List.length_filter_lt_length_iff_exists (p:=fun y=>decide (y≠x)).2 ⟨x,hx,by simp⟩;rw[eE];omega
def xe{x:Bz}{y:Ex}:∀{es:List Ae},cw es x=some y->(x,y)∈es
 |e::es,h=>by
  simp only[cw]at h;split at h
  .rename_i hx;cases h;rw[<-hx];simp
  .exact mc _ (xe h)
def zM{es:List Ae}(ho:∀e,e∈es->e.2.ok):Ix (db (cw es)) where
 ok g hg x sc tg hx:=by
  cases hg
  have ht:(jG (cw es) sc x.text).size<=aR:=by
   unfold jG uP;have hxt:x.text.size<=aR:=by cases x;exact hx.1
   cases sc.at x.text with
   |some k=>exact hxt
   |none=>
    cases hy:cw es x.text with
    |none=>exact hxt
    |some y=>
     have:=ho _ (xe hy);cases y;exact this.1
  show Ex.ok (if x.kind=6 then pe (cw es) sc x else _);split
  .unfold pe
   cases sc.at x.text with
   |some k=>exact hx
   |none=>
    cases hy:cw es x.text with
    |none=>exact hx
    |some y=>exact ho _ (xe hy)
  .cases x;exact⟨ht,hx.2.1,hx.2.2⟩
 f _ _ hx:=hx
 cl c hc x sc hx:=by
  cases hc;show(jG (cw es) sc x).size<=aR;unfold jG uP
  cases sc.at x with
  |some k=>exact hx
  |none=>
   cases hy:cw es x with
   |none=>exact hx
   |some y=>
    have:=ho _ (xe hy);cases y;exact this.1
def qlG(s:Sm)(hs:s.ok)(va:(Pa.st s).valid ar=true)(hsz:(Pa.st s).size<=4000)(b:Bool)(l:List Bz)(es:List Ae)(hl:l.length<=1000)(hz:∀e,e∈es->(Pa.ex e.2).size<=4000)(ho:∀e,e∈es->e.2.ok)
  (hfr:s.frees.length+Sm.aX [s]+(jJ l es).length<=899) (m:Nat) (bs:List Nat) (ck:Nat) (hbs:fu bs ck) (hlen:bs.length=es.length) (S:St) (hm:S[m]?=some (.map (es.map jQ) bs ck)):
  au prog 81 [s.v,.sl b (l.map .str),.map m] S (fun r U=>r=.aH [xU s l es,.int .i64 (qp s l es)]/\Kp (fun _=>False) S U):=by
 refine au.ib Qr ?_;obtain⟨S1,hS1⟩:∃S1:St,S1=S++[.arr [s.v] 8 1,.arr [bX] 8 1]:=⟨_,rfl⟩;have b0:S1[S.length]?=some (.arr [s.v] 8 1):=by rw[hS1];simp
 have b1:S1[S.length+1]?=some (.arr [bX] 8 1):=by rw[hS1,bK oM];simp
 have l1:S1.length=S.length+2:=by rw[hS1];simp
 have kS:Kp (fun _=>False) S S1:=by rw[hS1];exact(Kp.refl _ _).push _
 have m1:=kS.at hm id;have lm:=aM hm;have he:qp s l es=if(Pa.st (eX s l es)).err ar≠0 then(Pa.st (eX s l es)).err ar else if nZ s l es=true then 10 else(Pa.st (jz s l es)).err ar:=rfl
 have hv:xU s l es=if qp s l es=0 then(jz s l es).v else bX:=rfl
 have fin:∀(Y:St) (y:V) (e:Int) (ev:af),Kp (fun _=>False) S1 Y->xU s l es=y->qp s l es=e->ev.get 6=some (.ptr (S.length+1) 0 0 1)->ev.get 7=some (.int .i64 e)->V.part y 0 (some 8)=some y->
   eH [.cell 6 (some 8),.t 7] S.length (fun r U=>r=.aH [xU s l es,.int .i64 (qp s l es)]/\Kp (fun _=>False) S U) .ret ev (Y.set (S.length+1) (.arr [y] 8 1)):=fun Y y e ev kY hy he g6 g7 hp=>by
  have h1:=kY.at b1 id;have h2:(Y.set (S.length+1) (.arr [y] 8 1))[S.length+1]?=some (.arr [y] 8 1):=bJ (aM h1);exact aS (vs:=[y,.int .i64 e]) (by simp[dm,g6,g7,ae,h2,hp]) ⟨by rw[hy,he];rfl,(kS.trans kY).set _ (.inr oM)⟩
 simp only[Qr,eZ];refine dE (fun e U=>U=S1/\e.get 1=some (.sl b (l.map .str))/\e.get 2=some (.map m)/\e.get 3=some (.ptr S.length 0 0 1)/\e.get 6=some (.ptr (S.length+1) 0 0 1)) (by rw[hS1];simp[aC,iF]) ?_;rintro e U ⟨rfl,g1,g2,g3,g6⟩;refine dE (fun e Z1=>Z1=U++[.map [] [] 0]/\e.get 8=some (.map U.length)/\e.get 1=some (.sl b (l.map .str))/\e.get 2=some (.map m)/\e.get 3=some (.ptr S.length 0 0 1)/\e.get 6=some (.ptr (S.length+1) 0 0 1)) (by simp[aZ,g1,g2,g3,g6]) ?_;clear g1 g2 g3 g6 e;rintro e Z1 ⟨hV,g8,g1,g2,g3,g6⟩;have kV:Kp (fun _=>False) U Z1:=by rw[hV];exact(Kp.refl _ _).push _
 have tV:Tk U.length (fun _=>False) Z1:=⟨[],[],0,fu.nil,by rw[hV];simp,vR,fun x=>by simp⟩;have lV:Z1.length=U.length+1:=by rw[hV];simp
 clear hV;refine dE (fun e X=>Kp (fun _=>False) U X/\U.length+1<=X.length/\Tk U.length (fun x=>x∈l) X/\e.get 8=some (.map U.length)/\e.get 1=some (.sl b (l.map .str))/\e.get 2=some (.map m)/\e.get 3=some (.ptr S.length 0 0 1)/\e.get 6=some (.ptr (S.length+1) 0 0 1)) ?_ ?_
 .simp[g8,g1];refine aU (tV.add b l oM) ?_;rintro r X ⟨tX,kX,lX⟩;simp[g8,g1,g2,g3,g6];refine⟨⟨by omega,fun k hk _=>?_⟩,by omega,tX.same sM⟩;rw[kX.get k oM oM,kV.get k hk id]
 clear g8 g1 g2 g3 g6 e tV;rintro e X ⟨kX,lX,tX,g8,g1,g2,g3,g6⟩;refine dE (fun e Y=>Kp (fun _=>False) U Y/\U.length+1<=Y.length/\Tk U.length (fun x=>x∈jJ l es) Y/\e.get 8=some (.map U.length)/\e.get 2=some (.map m)/\e.get 3=some (.ptr S.length 0 0 1)/\e.get 6=some (.ptr (S.length+1) 0 0 1)) ?_ ?_
 .have mX:=kX.at m1 id;simp[aZ,g2,uK,mX];obtain⟨L,hL⟩:∃L,L=X.length:=⟨_,rfl⟩;obtain⟨X2,hX2⟩:∃X2:St,X2=X++[.iter m ck [] ck]:=⟨_,rfl⟩;rw[<-hX2,<-hL];have iX2:X2[L]?=some (.iter m ck [] ck):=by rw[hX2,hL];simp
  have KW:Kp (fun _=>False) U X2:=by rw[hX2];exact kX.push _
  have tX2:Tk U.length (fun x=>x∈l) X2:=tX.keep (by rw[hX2,b8 oM]);have lX2:X2.length=L+1:=by rw[hX2,hL];simp
  clear hX2;obtain⟨J,hJ⟩:∃J:List Nat->St->Prop,∀seen Y,J seen Y↔(Kp (fun _=>False) U Y/\L+1<=Y.length/\Y[L]?=some (.iter m ck seen ck)/\Tk U.length (fun x=>x∈l\/∃(i:Nat) (e:Ae) (b:Nat),es[i]?=some e/\bs[i]?=some b/\b∈seen/\x∈e.2.eo) Y):=⟨_,fun _ _=>Iff.rfl⟩;refine QX (L:=L) (lm:=m) (since:=ck) (bs:=bs) (es:=es.map jQ) (ck:=ck) (e0:=[(22,.ptr L 0 0 0),(8,.map U.length),(6,.ptr (S.length+1) 0 0 1),(3,.ptr S.length 0 0 1),(2,.map m)]) J
   ?_ (by simp[aV.ev]) (by simp[hlen]) hbs.1 ((hJ _ _).2 ⟨KW,by omega,iX2,tX2.same fun x=>by simp⟩) ?_ ?_ ?_
  .repeat' first|exact af.fh _|refine af.dV (by simp[g8,g2,g3,g6]) ?_
  .intro seen Y hj;obtain⟨h1,_,h2,_⟩:=(hJ _ _).1 hj;exact⟨⟨ck,cq _,h2⟩,h1.at m1 id⟩
  .intro seen Y hj hall;obtain⟨h1,h2,h3,h4⟩:=(hJ _ _).1 hj;simp;refine⟨h1,by omega,h4.same fun x=>?_⟩;unfold jJ;rw[cC,tI];refine or_congr_right ⟨?_,?_⟩
   .rintro⟨i,e,b,hi,_,_,hx⟩;exact⟨e,dc hi,hx⟩
   .rintro⟨e,he,hx⟩;obtain⟨i,hi⟩:=rG.1 he;have hlt:=(aT.1 hi).1;have hb:=bI (l:=bs) (i:=i) oM;exact⟨i,e,bs[i],hi,hb,hall _ (dc hb),hx⟩
  .intro seen Y i k v b' hj hk hb hn;obtain⟨h1,h2,h3,h4⟩:=(hJ _ _).1 hj;rw[dS,dL]at hk;obtain⟨e1,hi,hkv⟩:=hk;cases hkv;have hY2:(Y.set L (.iter m ck (seen++[b']) ck))[L]?=some (.iter m ck (seen++[b']) ck):=bJ (aM h3)
   have Ub:(Y.set L (.iter m ck (seen++[b']) ck))[m]?=some (.map (es.map jQ) bs ck):=by
    rw[bC (by have:=aM m1;omega)];exact h1.at m1 id
   have hent:=S4 hY2 Ub hbs.2 (by rw[dS,hi];rfl) hb;obtain⟨Y2,BN⟩:∃Y2,Y2=Y.set L (.iter m ck (seen++[b']) ck):=⟨_,rfl⟩;have KX:Kp (fun _=>False) U Y2:=by rw[BN];exact h1.set _ (.inr oM)
   have tY2:=h4.keep (Y:=Y2) (by rw[BN,bC oM]);have lY2:Y2.length=Y.length:=by rw[BN];simp
   rw[<-BN]at hY2 Ub hent |-;clear BN;have hn7:V.upd (.agg [.int .i64 0,.int .i64 0,.int .i64 0,.int .i64 0,.int .i64 0,.str ⟨⟨[]⟩⟩,.sl true []]) 0 7 e1.2.v=some e1.2.v:=by rw[aE];simp
   have hea:(jQ e1).2=e1.2.v:=rfl;have hft:fits 7 [e1.2.v]=true:=by simp[fits]
   simp[aZ,hent,aC,aA,hea,hn7,ae,hft];obtain⟨Y3,JZ⟩:∃Y3:St,Y3=Y2++[.arr [e1.2.v] 7 1]:=⟨_,rfl⟩;have US:Kp (fun _=>False) Y2 Y3:=by rw[JZ];exact(Kp.refl _ _).push _
   rw[<-JZ];clear JZ;refine aU (qlE true [e1.2] (by have:=hz e1 (dc hi);simp[fq,aY];omega) Y3) ?_;rintro r Y4 ⟨M,we,ck2,rfl,hst2,hM,kY4,hMl⟩;have hoc:Ex.cf [e1.2]=e1.2.eo:=by simp[Ex.cf]
   rw[hoc]at hM;obtain⟨ug,Gg⟩:∃ug,ug=e1.2.eo.foldl dQ []:=⟨_,rfl⟩;rw[<-Gg]at hM;have lM:=aM hM;simp[aZ,uK,hM];obtain⟨L2,hL2⟩:∃L2,L2=Y4.length:=⟨_,rfl⟩;obtain⟨Y5,BO⟩:∃Y5:St,Y5=Y4++[.iter M ck2 [] ck2]:=⟨_,rfl⟩;rw[<-BO,<-hL2];have UT:Kp (fun _=>False) Y4 Y5:=by rw[BO];exact(Kp.refl _ _).push _
   have iY5:Y5[L2]?=some (.iter M ck2 [] ck2):=by rw[BO,hL2];simp
   have k25:Kp (fun _=>False) Y2 Y5:=(US.trans kY4).trans UT;have M5:=UT.at hM id;have L5:=k25.at hY2 id;have T5:=tY2.keep (k25.get U.length oM id);have l5:L2+1<=Y5.length:=by rw[BO,hL2];simp
   have lY3:=US.len;clear BO;obtain⟨J2,hJ2⟩:∃J2:List Nat->St->Prop,∀rl Z,J2 rl Z↔(Kp (fun _=>False) U Z/\L2+1<=Z.length/\Z[L]?=some (.iter m ck (seen++[b']) ck)/\Z[M]?=some (.map (ug.map kv) we ck2)/\Z[L2]?=some (.iter M ck2 rl ck2)/\Tk U.length (fun x=>(x∈l\/∃(i:Nat) (e:Ae) (b:Nat),es[i]?=some e/\bs[i]?=some b/\b∈seen/\x∈e.2.eo)\/∃(i:Nat) (b:Nat),ug[i]?=some x/\we[i]?=some b/\b∈rl) Z):=⟨_,fun _ _=>Iff.rfl⟩;have hkl:(ug.map kv).length=we.length:=by rw[bu,hst2.2,hoc,Gg]
   refine QX (L:=L2) (lm:=M) (since:=ck2) (bs:=we) (es:=ug.map kv) (ck:=ck2) (e0:=[(30,.ptr L2 0 0 0),(22,.ptr L 0 0 0),(8,.map U.length),(6,.ptr (S.length+1) 0 0 1),(3,.ptr S.length 0 0 1),(2,.map m)]) J2
    ?_ (by simp[aV.ev]) hkl hst2.1.1 ((hJ2 _ _).2 ⟨KX.trans k25,l5,L5,M5,iY5,T5.same fun x=>by simp⟩) ?_ ?_ ?_
   .exact aN
   .intro rl Z hj;obtain⟨_,_,_,q1,q2,_⟩:=(hJ2 _ _).1 hj;exact⟨⟨ck2,cq _,q2⟩,q1⟩
   .intro rl Z hj J5;obtain⟨q1,q2,q3,q4,q5,q6⟩:=(hJ2 _ _).1 hj;simp;refine⟨?_,(hJ _ _).2 ⟨q1,by omega,q3,q6.same fun x=>?_⟩⟩
    .exact aN
    .constructor
     .rintro((hx|⟨j,e,b2,h5,h6,h7,h8⟩)|⟨j,b2,h5,h6,h7⟩)
      .exact .inl hx
      .exact .inr ⟨j,e,b2,h5,h6,by simp[h7],h8⟩
      .refine .inr ⟨i,e1,b',hi,hb,by simp,?_⟩;have:=dc h5;rw[Gg,qa]at this;simpa using this
     .rintro(hx|⟨j,e,b2,h5,h6,h7,h8⟩)
      .exact .inl (.inl hx)
      .rcases cC.1 h7 with h7|h7
       .exact .inl (.inr ⟨j,e,b2,h5,h6,h7,h8⟩)
       .simp at h7;subst h7;have hij:i=j:=(ED (aT.1 hb).1 hbs.2).1 (hb.trans h6.symm);subst hij;rw[hi]at h5;cases h5;have hx2:x∈ug:=by rw[Gg,qa];exact .inr h8
        obtain⟨j2,hj2⟩:=rG.1 hx2;rw[bu]at hkl;have hlt:=(aT.1 hj2).1;have hb2:=bI (l:=we) (i:=j2) oM;exact .inr ⟨j2,we[j2],hj2,hb2,J5 _ (dc hb2)⟩
   .intro rl Z i2 k2 v2 b2 hj hk2 hb2 hn2;obtain⟨q1,q2,q3,q4,q5,q6⟩:=(hJ2 _ _).1 hj;rw[dS,dL]at hk2;obtain⟨x2,hx2,qeT⟩:=hk2;cases qeT;have hZ2:(Z.set L2 (.iter M ck2 (rl++[b2]) ck2))[L2]?=some (.iter M ck2 (rl++[b2]) ck2):=bJ (aM q5)
    have J0:(Z.set L2 (.iter M ck2 (rl++[b2]) ck2))[M]?=some (.map (ug.map kv) we ck2):=by
     rw[bC oM];exact q4
    have Ud:=S4 hZ2 J0 hst2.1.2 (by rw[dS,hx2];rfl) hb2;obtain⟨Z2,yW⟩:∃Z2,Z2=Z.set L2 (.iter M ck2 (rl++[b2]) ck2):=⟨_,rfl⟩;have GI:Kp (fun _=>False) U Z2:=by rw[yW];exact q1.set _ (.inr oM)
    have tZ2:=q6.keep (Y:=Z2) (by rw[yW,bC oM]);have lZ2:Z2.length=Z.length:=by rw[yW];simp
    have cZ2:Z2[L]?=some (.iter m ck (seen++[b']) ck):=by rw[yW,bC oM];exact q3
    rw[<-yW]at hZ2 J0 Ud |-;clear yW;have qeR:fits 1 [V.str x2]=true:=rfl;simp[aZ,Ud,kv,qeR];refine aU (tZ2.add true [x2] sM) ?_;rintro r Z3 ⟨tZ3,GK,lZ3⟩;simp;refine⟨?_,(hJ2 _ _).2 ⟨⟨by omega,fun k hk _=>?_⟩,by omega,GK.at cZ2 oM,GK.at J0 oM,GK.at hZ2 oM,tZ3.same fun x=>?_⟩⟩
    .exact aN
    .have:=GI.len;rw[GK.get k oM oM,GI.get k hk id]
    .rw[or_assoc];refine or_congr_right ?_;constructor
     .rintro(⟨j,b3,h5,h6,h7⟩|h5)
      .exact⟨j,b3,h5,h6,by simp[h7]⟩
      .simp at h5;subst h5;exact⟨i2,b2,hx2,hb2,by simp⟩
     .rintro⟨j,b3,h5,h6,h7⟩;rcases cC.1 h7 with h7|h7
      .exact .inl ⟨j,b3,h5,h6,h7⟩
      .simp at h7;subst h7;have hij:i2=j:=(ED (aT.1 hb2).1 hst2.1.2).1 (hb2.trans h6.symm);subst hij;rw[hx2]at h5;cases h5;exact .inr sM
 clear g8 g1 g2 g3 g6 e tX;rintro e Y ⟨kY,lY,⟨ks,bs',gG,_,mY,nd,hks⟩,g8,g2,g3,g6⟩;obtain⟨a,ha⟩:∃a,a=eX s l es:=⟨_,rfl⟩
 have haw:s.whole (lf (fM ks s.frees [] s.bounds))=a:=by
  rw[ha];unfold eX Sm.ap Sm.fE;rw[EX (sR:=(jJ l es).foldl dQ []) (fun x=>by rw[hks,qa];simp) (fun _=>Iff.rfl)]
 have hkl:ks.length<=(jJ l es).length:=VP nd fun x hx=>(hks x).1 hx
 have vY:a.ok:=by rw[ha];exact s.IG hs va hfr
 have IU:(Pa.st a).size<=4000:=by
  have:=(Sm.og (lf (s.fE (jJ l es))) s [ah s.labels 0] (ah s.labels 0).length).1;rw[ha];exact fL this hsz
 have Rl:Sm.aX [a]=Sm.aX [s]:=by
  rw[<-Sm.tN,ha,eX,Sm.Rw va hfr,Sm.IK]
 refine dE (fun e Z=>Kp (fun _=>False) U Z/\(∃A,U.length<=A/\e.get 12=some (.ptr A 0 0 1)/\Z[A]?=some (.arr [if(Pa.st a).err ar=0 then a.v else bX] 8 1))/\e.get 13=some (.int .i64 ((Pa.st a).err ar))/\e.get 2=some (.map m)/\e.get 3=some (.ptr S.length 0 0 1)/\e.get 6=some (.ptr (S.length+1) 0 0 1)) ?_ ?_
 .have c0:=kY.at b0 id;have d0:ae Y (.ptr S.length 0 0 1) (some 8)=some s.v:=by simp[ae,c0]
  simp[g8,g3,d0];refine aU (qlL s hs va hsz ks oM U.length bs' gG Y mY) ?_;rintro r Z ⟨rfl,kZ⟩;rw[haw];simp;refine aU (ZL a vY Z) ?_;rintro r Z2 ⟨rfl,GI⟩;have kk:=(kY.trans kZ).trans GI;obtain⟨q,hq⟩:∃q,q=if(Pa.st a).err ar=0 then a.v else bX:=⟨_,rfl⟩
  have hq2:V.upd bX 0 8 q=some q:=by
   rw[hq];split
   .unfold bX;rw[aE];simp
   .rfl
  unfold bX at hq2;rw[<-hq];simp[aC,aA,hq2,g2,g3,g6];exact⟨kk.push _,_,kk.len,rfl,by simp⟩
 clear g8 g2 g3 g6 e;rintro e Z ⟨kZ,⟨A,hA,g12,zA⟩,g13,g2,g3,g6⟩;rw[<-ha]at he;refine dE (fun e Z'=>Z'=Z/\(Pa.st a).err ar=0/\e.get 12=some (.ptr A 0 0 1)/\e.get 2=some (.map m)/\e.get 6=some (.ptr (S.length+1) 0 0 1)) ?_ ?_
 .have z1:=kZ.at b1 id;by_cases h0:(Pa.st a).err ar=0
  .simp[g13,h0,g12,g2,g6]
  .rw[ai h0]at he;rw[he,aj h0]at hv;simp[g13,h0,bz,bj,aA,g6,z1,aE];refine fin _ bX _ _ kZ hv he ?_ ?_ rfl<;>simp[g6]
 clear g12 g13 g2 g3 g6 e;rintro e Z' ⟨rfl,h0,g12,g2,g6⟩;rw[aj (by rw[h0];simp)]at he;rw[ai h0]at zA;have av:=(pS h0).2;refine dE (fun e X'=>QJ es m Z' (.aH [(e.get 14).getD .bF,(e.get 15).getD .bF]) X'/\e.get 12=some (.ptr A 0 0 1)/\(∃x,e.get 14=some x)/\(∃x,e.get 15=some x)/\e.get 6=some (.ptr (S.length+1) 0 0 1)) ?_ ?_
 .simp[g2];refine aU (ZN es m bs ck Z' (kZ.at m1 id)) ?_;rintro r X' ⟨w,cb,cg,ct,F,D,rfl,h1,h2,h3,h4,h5⟩;simp[g12,g6];exact⟨w,cb,cg,ct,F,D,rfl,h1,h2,h3,h4,h5⟩
 clear g12 g2 g6 e;rintro e X' ⟨⟨w,cb,cg,ct,F,D,hr,h1,h2,h3,h4,h5⟩,g12,⟨x14,g14⟩,⟨x15,g15⟩,g6⟩;rw[g14,g15]at hr;simp only[yl,V.aH.injEq,List.cons.injEq,and_true]at hr;obtain⟨rfl,rfl⟩:=hr;have hcb:(uN es cb m cg ct).Ok:=YM es cb m cg ct fun x y hy=>hz _ (xe hy)
 obtain⟨o,hO⟩:∃o,o=a.mI (db (cw es)):=⟨_,rfl⟩;have hoS:jz s l es=o:=by rw[hO,ha];rfl
 have G0:o.ok:=by rw[hO];exact Sm.NN (zM ho) a vY
 have hF:nZ s l es=fP (a.kP (db (cw es)) (false:Bool)):=by rw[ha];rfl
 refine dE (fun e W=>Kp (fun _=>False) U W/\(∃B,U.length<=B/\e.get 16=some (.ptr B 0 0 1)/\W[B]?=some (.arr [o.v] 8 1))/\W[cg]?=some (.arr [.bool (nZ s l es)] 1 1)/\e.get 15=some (.ptr cg 0 0 1)/\e.get 6=some (.ptr (S.length+1) 0 0 1)) ?_ ?_
 .have c0:=h5.at zA id;have d0:ae X' (.ptr A 0 0 1) (some 8)=some a.v:=by simp[ae,c0]
  simp[g14,g12,d0];refine aU (M9 (uN es cb m cg ct) hcb w a vY IU (false:Bool) F D X' h1 (by show Sm.aX [a]<=100001;omega)) ?_;rintro r W ⟨rfl,F2,D2,k2,s2⟩;have hst:gA es cb m cg ct (a.kP (db (cw es)) (false:Bool)) F2 D2 W:=k2.st;have hg:W[cg]?=some (.arr [.bool (nZ s l es)] 1 1):=by rw[hF];exact hst.g
  have kW:Kp (fun _=>False) U W:=⟨fL (kZ.trans h5).len s2.k.len,fun k hk _=>by
   have q1:=kZ.len;have q2:=h5.len;rw[s2.k.get k oM (by rintro(hh|hh);omega;have:=(h4 k).1 hh;omega)];exact(kZ.trans h5).get k hk id⟩
  rw[show a.mI (uN es cb m cg ct).toPw=o from hO.symm];have hq2:V.upd bX 0 8 o.v=some o.v:=by unfold bX;rw[aE];simp
  unfold bX at hq2;have hlt:=aM hg;simp[aC,aA,hq2,g15,g6];exact⟨kW.push _,⟨_,kW.len,rfl,by simp⟩,by rw[b8 hlt];exact hg⟩
 clear g12 g14 g15 g6 e;rintro e W ⟨kW,⟨B,hB,g16,wB⟩,wg,g15,g6⟩;have w1:=kW.at b1 id;rw[hoS]at he hv
 cases hf:nZ s l es with
 |true=>
  rw[hf]at wg;rw[hf,ai rfl]at he;rw[he,aj (by decide)]at hv;simp[g15,cF,ae,wg,bz,bj,aA,g6,w1,aE];refine fin _ bX _ _ kW hv he ?_ ?_ rfl<;>simp[g6]
 |false=>
  rw[hf]at wg;rw[hf,aj sM]at he;have d0:ae W (.ptr B 0 0 1) (some 8)=some o.v:=by simp[ae,wB]
  have dg:ae W (.ptr cg 0 0 1) none=some (.bool false):=by simp[ae,wg]
  simp[g15,cF,dg,g16,d0];refine aU (ZL o G0 W) ?_;rintro r W2 ⟨rfl,mr⟩;have w2:=mr.at w1 id;by_cases ho0:(Pa.st o).err ar=0
  .rw[he,ai ho0]at hv;rw[ho0]at he;simp[ho0,aA,g6,w2,aE];refine fin _ o.v 0 _ (kW.trans mr) hv he ?_ ?_ (sx _)<;>simp[g6]
  .rw[he,aj ho0]at hv;simp[ho0,aA,g6,w2,aE];refine fin _ bX _ _ (kW.trans mr) hv he ?_ ?_ rfl<;>simp[g6]
set_option maxHeartbeats 0
set_option maxRecDepth 100000
noncomputable def P9:=aI func48
noncomputable def Qu:=aI func84
noncomputable def Qv:=aI func85
noncomputable def QE:=aI func98
noncomputable def Qa:=aI func49
noncomputable def Qb:=aI func50
noncomputable def Qc:=aI func51
noncomputable def QF:=aI func99
noncomputable def OO:=aI func16
def nW(x:Ex)(es:List Ae):Ex:=x.wr (db (cw es)) [] false
def qm(x:Ex)(es:List Ae):Bool:=fP (Ex.hs (db (cw es)) [] false (false:Bool) x)
def j6(x:Ex)(l:List Bz)(xs:List Ex):Int:=if(Pa.ex x).err ar≠0 then(Pa.ex x).err ar else if fX l xs≠0 then fX l xs else if qm x (l.zip xs)=true then 10 else(Pa.ex (nW x (l.zip xs))).err ar
def j7(x:Ex)(l:List Bz)(xs:List Ex):V:=if j6 x l xs=0 then(nW x (l.zip xs)).v else eD
def ZS(y:Ex)(U:St):aA (U++[.arr [.agg [.int .i64 0,.int .i64 0,.int .i64 0,.int .i64 0,.int .i64 0,.str ⟨⟨[]⟩⟩,.sl true []]] 7 1]) (.ptr U.length 0 0 1) 7 y.v=some (U++[.arr [y.v] 7 1]):=by simp[aA,aE]
def qlu(x:Ex)(hx:x.ok)(hsz:(Pa.ex x).size<=4000)(b b':Bool)(l:List Bz)(xs:List Ex)(hl:l.length<=1000)(hxl:xs.length<=1000)(hz:∀x,x∈xs->(Pa.ex x).size<=4000)(ho:∀x,x∈xs->x.ok)(S:St):
  au prog 48 [x.v,.sl b (l.map .str),.sl b' (xs.map Ex.v)] S (fun r U=>r=.aH [j7 x l xs,.int .i64 (j6 x l xs)]/\Kp (fun _=>False) S U):=by
 refine au.ib P9 ?_;obtain⟨S1,hS1⟩:∃S1:St,S1=S++[.arr [x.v] 7 1,.arr [eD] 7 1]:=⟨_,rfl⟩;have b0:S1[S.length]?=some (.arr [x.v] 7 1):=by rw[hS1];simp
 have b1:S1[S.length+1]?=some (.arr [eD] 7 1):=by rw[hS1,bK oM];simp
 have l1:S1.length=S.length+2:=by rw[hS1];simp
 have kS:Kp (fun _=>False) S S1:=by rw[hS1];exact(Kp.refl _ _).push _
 have d0:ae S1 (.ptr S.length 0 0 1) (some 7)=some x.v:=by simp[ae,b0]
 have he:j6 x l xs=if(Pa.ex x).err ar≠0 then(Pa.ex x).err ar else if fX l xs≠0 then fX l xs else if qm x (l.zip xs)=true then 10 else(Pa.ex (nW x (l.zip xs))).err ar:=rfl
 have hv:j7 x l xs=if j6 x l xs=0 then(nW x (l.zip xs)).v else eD:=rfl
 have fin:∀(Y:St) (y:V) (e:Int) (ev:af),Kp (fun _=>False) S1 Y->j7 x l xs=y->j6 x l xs=e->ev.get 6=some (.ptr (S.length+1) 0 0 1)->ev.get 7=some (.int .i64 e)->V.part y 0 (some 7)=some y->
   eH [.cell 6 (some 7),.t 7] S.length (fun r U=>r=.aH [j7 x l xs,.int .i64 (j6 x l xs)]/\Kp (fun _=>False) S U) .ret ev (Y.set (S.length+1) (.arr [y] 7 1)):=fun Y y e ev kY hy he g6 g7 hp=>by
  have h1:=kY.at b1 id;have h2:(Y.set (S.length+1) (.arr [y] 7 1))[S.length+1]?=some (.arr [y] 7 1):=bJ (aM h1);exact aS (vs:=[y,.int .i64 e]) (by simp[dm,g6,g7,ae,h2,hp]) ⟨by rw[hy,he];rfl,(kS.trans kY).set _ (.inr oM)⟩
 simp only[eD]at hS1;simp[P9,aC];rw[<-hS1];simp[d0];refine aG (Nb x hx S1) ?_;by_cases h0:(Pa.ex x).err ar=0
 case neg=>
  rw[ai h0]at he;rw[he,aj h0]at hv;simp[h0,bz,bj,aA,b1,eD,aE];refine fin _ eD _ _ (Kp.refl _ _) hv he ?_ ?_ rfl<;>simp
 rw[aj (by rw[h0];simp)]at he;simp[h0];refine aU (ZM b b' l xs hl hxl ho S1) ?_;rintro r U ⟨kU,⟨hp,rfl⟩|⟨hp,m,bs,ck,hm,rfl,hst,Ks⟩⟩
 .have c1:=kU.at b1 id;rw[ai hp]at he;rw[he,aj hp]at hv;simp[hp,bz,bj,aA,c1,eD,aE];refine fin _ eD _ _ kU hv he ?_ ?_ rfl<;>simp
 rw[aj (by rw[hp];simp)]at he;simp;refine aU (ZN (l.zip xs) m bs ck U Ks) ?_;rintro r X ⟨w,cb,cg,ct,F,D,rfl,h1,h2,h3,h4,h5⟩;have kX:=kU.trans h5;have c0:=kX.at b0 id;have dX:ae X (.ptr S.length 0 0 1) (some 7)=some x.v:=by simp[ae,c0]
 have hcb:(uN (l.zip xs) cb m cg ct).Ok:=YM (l.zip xs) cb m cg ct fun x y hy=>hz _ (qD (xe hy)).2
 simp[dX];refine aU (HH (uN (l.zip xs) cb m cg ct) hcb w 4000 x hsz bL 0 (false:Bool) F D X .bF [] false h1 rfl) ?_;rintro r W ⟨rfl,F2,D2,k2,s2⟩;have hst2:gA (l.zip xs) cb m cg ct (Ex.hs (db (cw (l.zip xs))) [] false (false:Bool) x) F2 D2 W:=k2.st;have hg:W[cg]?=some (.arr [.bool (qm x (l.zip xs))] 1 1):=hst2.g;have hW:∀k,k<X.length->k≠w->k≠cg->W[k]?=X[k]?:=fun k hk hw hc=>s2.k.get k hk (by rintro(hh|hh);exact hw hh;exact hc ((h4 k).1 hh))
 have kW:Kp (fun _=>False) S1 W:=⟨fL kX.len s2.k.len,fun k hk _=>by
  have q1:=kU.len;have q2:=h5.len;rw[hW k oM oM oM];exact kX.get k hk id⟩
 rw[show Ex.wr (uN (l.zip xs) cb m cg ct).toPw (am []) false x=nW x (l.zip xs) from rfl];obtain⟨o,hO⟩:∃o,o=nW x (l.zip xs):=⟨_,rfl⟩;rw[<-hO]at he hv |-;have oo:o.ok:=by rw[hO];exact Ex.pq (zM fun e he=>ho _ (qD he).2) [] false x hx
 obtain⟨W2,hW2⟩:∃W2,W2=W++[.arr [o.v] 7 1]:=⟨_,rfl⟩;have mr:Kp (fun _=>False) S1 W2:=by rw[hW2];exact kW.push _
 have g2:W2[cg]?=some (.arr [.bool (qm x (l.zip xs))] 1 1):=by rw[hW2,b8 (aM hg)];exact hg
 have o2:W2[W.length]?=some (.arr [o.v] 7 1):=by rw[hW2];simp
 have tP:ae W2 (.ptr W.length 0 0 1) (some 7)=some o.v:=by simp[ae,o2]
 have c1:=mr.at b1 id;have hpo:V.part o.v 0 (some 7)=some o.v:=by simp[V.part,Ex.eP,V.isAgg,Ex.dJ]
 simp[aC,ZS];rw[<-hW2]
 cases hf:qm x (l.zip xs) with
 |true=>
  rw[hf]at g2;rw[ai hf]at he;rw[he,aj sM]at hv;simp[cF,ae,g2,bz,bj,aA,c1,eD,aE];refine fin _ eD _ _ mr hv he ?_ ?_ rfl<;>simp
 |false=>
  rw[hf]at g2;rw[aj (by rw[hf];simp)]at he;have dg:ae W2 (.ptr cg 0 0 1) none=some (.bool false):=by simp[ae,g2]
  simp[cF,dg,tP];refine aG (Nb o oo W2) ?_;by_cases e0:(Pa.ex o).err ar=0
  .rw[e0]at he;rw[he,ai rfl]at hv;have hu:V.upd eD 0 7 o.v=some o.v:=by unfold eD;rw[aE];simp
   unfold eD at hu c1;simp[e0,tP,aA,c1,hu];refine fin _ o.v _ _ mr hv he ?_ ?_ hpo<;>simp
  .rw[he,aj e0]at hv;simp[e0,bz,bj,aA,c1,eD,aE];refine fin _ eD _ _ mr hv he ?_ ?_ rfl<;>simp
def qde{xs:List Ex}{i:Nat}(h:i<xs.length):jU (xs.drop i)=if(Pa.ex xs[i]).err ar≠0 then(Pa.ex xs[i]).err ar else jU (xs.drop (i+1)):=by
 rw[rF h,jU]
def qlH(b:Bool)(xs:List Ex)(hl:xs.length<=1000)(ho:∀x,x∈xs->x.ok)(S:St):Fn prog 84 [.sl b (xs.map Ex.v)] S (.int .i64 (jU xs)):=by
 refine au.ib Qu ?_;simp[Qu];refine du (fun e U=>U=S/\jU xs=0) ?_ ?_
 .refine bN (fun j e U=>∃i:Nat,j=xs.length-i/\i<=xs.length/\U=S/\jU xs=jU (xs.drop i)/\e=[(3,.int .i64 i),(0,.sl b (xs.map Ex.v))]) xs.length _ ?_ ⟨0,by simp,by omega,rfl,by simp,rfl⟩ ?_
  .exact aN
  rintro j e U ⟨i,rfl,hi,rfl,hd,rfl⟩;by_cases h:i<xs.length
  case neg=>
   have:i=xs.length:=by omega
   subst this;simp;rw[hd,List.drop_length];rfl
  simp[h,mP];refine aG (M8 xs[i] (ho _ (cI h)) U) ?_;have hs:=qde h;by_cases he:(Pa.ex xs[i]).err ar=0
  .rw[aj (by rw[he];simp)]at hs;simp[he,cU,dx,dG];rw[bP i];refine⟨_,?_,_,?_,i+1,rfl,by omega,by rw[hd,hs],rfl⟩
   .omega
   .exact aN
  .rw[ai he]at hs;simp[he];exact aS rfl ⟨by rw[hd,hs];rfl,rfl⟩
 .rintro e U ⟨rfl,he⟩;simp;exact aS rfl ⟨by rw[he];rfl,rfl⟩
def qhb{l:List Bz}{i:Nat}(h:i<l.length):(l.take (i+1)).Nodup↔(l.take i).Nodup/\l[i]∉l.take i:=by
 rw[cY,bI h,gZ,vQ];constructor
 .rintro⟨h1,_,h3⟩;exact⟨h1,fun hm=>h3 _ hm _ sM rfl⟩
 .rintro⟨h1,h2⟩;refine⟨h1,by simp,fun a ha b hb e=>?_⟩;simp only[mK]at hb;rw[e,hb]at ha;exact h2 ha
def qa7{l:List Bz}{i:Nat}(h:i<l.length):fj (l.take (i+1)) (fun s=>!ar s)=(fj (l.take i) (fun s=>!ar s)||!ar l[i]):=by
 unfold fj;rw[cY,bI h,gZ,yg];simp
def qj7{l:List Bz}{i:Nat}(hi:i<=l.length)(b:Bool)(S:St):sF S 1 (.sl b (l.map .str)) none (some (i:Int))=some (.sl (b&&decide ((i:Int)=l.length)) ((l.take i).map .str)):=by
 have h1:((l.map V.str).all fun v=>v.size==1)=true:=by
  rw[d6];intro v hv;obtain⟨x,_,rfl⟩:=cE.1 hv;rfl
 unfold sF gX;simp only[AP,yl,bu];rw[ai ⟨by omega,by omega,by omega,h1⟩];simp[vN]
def ZO(b b':Bool)(l:List Bz)(xs:List Ex)(hl:l.length<=1000)(hx:xs.length<=1000)(ho:∀x,x∈xs->x.ok)(S:St):Fn prog 98 [.sl b (l.map .str),.sl b' (xs.map Ex.v)] S (.int .i64 (fX l xs)):=by
 refine au.ib QE ?_;have hp:fX l xs=if l.length≠xs.length\/(fj l fun s=>!ar s)=true then 1 else if ¬l.Nodup then 6 else jU xs:=rfl
 simp[QE];by_cases hlen:l.length=xs.length
 case neg=>
  rw[ai (.inl hlen)]at hp;simp[show ¬((l.length:Int)=xs.length) by omega];exact aS rfl ⟨by rw[hp];rfl,rfl⟩
 simp[show((l.length:Int)=xs.length) by omega];refine du (fun e U=>U=S/\(fj l fun s=>!ar s)=false/\e.get 0=some (.sl b (l.map .str))/\e.get 1=some (.sl b' (xs.map Ex.v))) ?_ ?_
 .refine bN (fun j e U=>∃i:Nat,j=l.length-i/\i<=l.length/\U=S/\(fj (l.take i) fun s=>!ar s)=false/\e=[(5,.int .i64 i),(0,.sl b (l.map .str)),(1,.sl b' (xs.map Ex.v))]) l.length _ ?_ ⟨0,by simp,by omega,rfl,rfl,rfl⟩ ?_
  .exact aN
  rintro j e U ⟨i,rfl,hi,rfl,hd,rfl⟩;by_cases h:i<l.length
  case neg=>
   have:i=l.length:=by omega
   subst this;rw[eR]at hd;simp[hd]
  simp[h,jb];refine aG (nX l[i] U) ?_;have hs:=qa7 h;rw[hd,Ak]at hs
  cases hn:ar l[i] with
  |true=>
   rw[hn]at hs;simp[cU,dx,dG];rw[bP i];refine⟨_,?_,_,?_,i+1,rfl,by omega,hs,rfl⟩
   .omega
   .exact aN
  |false=>
   rw[hn]at hs
   have:(fj l fun s=>!ar s)=true:=by
    unfold fj;rw[rD];exact⟨l[i],cI h,by simp[hn]⟩
   rw[ai (.inr this)]at hp;simp;exact aS rfl ⟨by rw[hp];rfl,rfl⟩
 rintro e U ⟨rfl,ha,g0,g1⟩;rw[aj (by rw[ha];simp[hlen])]at hp;simp[g0,g1];refine du (fun e U'=>U'=U/\l.Nodup/\e.get 1=some (.sl b' (xs.map Ex.v))) ?_ ?_
 .refine bN (fun j e U'=>∃i:Nat,j=l.length-i/\i<=l.length/\U'=U/\(l.take i).Nodup/\e=[(7,.int .i64 i),(0,.sl b (l.map .str)),(1,.sl b' (xs.map Ex.v))]) l.length _ ?_ ⟨0,by simp,by omega,rfl,vR,rfl⟩ ?_
  .repeat' first|exact af.fh _|refine af.dV (by simp[g0,g1]) ?_
  rintro j e U' ⟨i,rfl,hi,rfl,hd,rfl⟩;by_cases h:i<l.length
  case neg=>
   have:i=l.length:=by omega
   subst this;rw[eR]at hd;simp[hd]
  have hs:=qhb h;have hsl:=qj7 (l:=l) (i:=i) hi b U';simp[h,jb,↓Bt,ju,hsl,cU,dx,dG,uh]
  have q:Fn prog 34 [.sl (b&&decide ((i:Int)=l.length)) ((l.map V.str).take i),.str l[i]] U' (.bool (eN l[i] (l.take i))):=by
   rw[<-vN];exact qlp _ (l.take i) l[i] U' (by rw[km];omega)
  refine aG q ?_
  cases hn:eN l[i] (l.take i) with
  |true=>
   have:¬l.Nodup:=fun hh=>by
    have h2:=hs.1 (hh.sublist (List.take_sublist _ _));exact h2.2 (jv.1 hn)
   rw[ai this]at hp;simp;exact aS rfl ⟨by rw[hp];rfl,rfl⟩
  |false=>
   simp[cU,dx,dG];rw[bP i];refine⟨_,?_,_,?_,i+1,rfl,by omega,hs.2 ⟨hd,se.1 hn⟩,rfl⟩
   .omega
   .exact aN
 .rintro e U' ⟨rfl,hn,g1⟩;rw[aj (by simp[hn])]at hp;simp[g1];refine aG (qlH b' xs hx ho U') ?_;simp;exact aS rfl ⟨by rw[hp];rfl,rfl⟩
def Ex.uZ{nm:Bz->Bool}{k o n m e:Int}{t t':Bz}{a a':List Ex}(ha:a'.length=a.length)(h1:Ex.named k=true->nm t'=true)(h2:¬Ex.named k=true->t'=t)
  (v:Ex.aQ nm (.mk k o n m e t a)=true):Ex.aQ nm (.mk k o n m e t' a')=true:=by
 by_cases hn:Ex.named k=true
 .have ht:=h1 hn;have hk:k=6\/k=7\/k=8:=by simpa[Ex.named,or_assoc]using hn
  rcases hk with rfl|rfl|rfl<;>simp[Ex.aQ]at v<;>simp[Ex.aQ,ha,ht,v]
 .rw[h2 hn];simp only[Ex.aQ]at v |-;rw[ha];exact v
def Sm.uZ{nm:Bz->Bool}{l l':List Bz}{k:Int}{t t':Bz}{g g' e e':List Ex}{h h':List El}{d d':List De}{b b':List Sm}
  (hl:l'.all nm=true) (hg:g'.all Ex.tgt=true) (lg:g'.length=g.length) (le:e'.length=e.length) (lh:h'.length=h.length) (ld:d'.length=d.length) (lb:b'.length=b.length)
  (h1:k=6->nm t'=true) (h2:k≠6->t'=t) (hb:Sm.jc b'=Sm.jc b) (v:Sm.aQ nm (.mk l k t g e h d b)=true):Sm.aQ nm (.mk l' k t' g' e' h' d' b')=true:=by
 unfold Sm.aQ at v |-;rw[bZ]at v |-;refine⟨by rw[hl,hg];rfl,?_⟩;have v:=v.2;rw[lg,le,lh,ld,lb,hb];by_cases h6:k=6
 .have ht:=h1 h6;subst h6;simp at v |-;simp[v,ht]
 .rw[h2 h6];exact v
def De.uZ{nm:Bz->Bool}{k:Int}{o:Bool}{t:Int}{n n':List Bz}{e e':List Ex}{f f':List Fo}{b b':List Sm}
  (hn:n'.all nm=true) (ln:n'.length=n.length) (le:e'.length=e.length) (lf:f'.length=f.length) (lb:b'.length=b.length) (hf:k=4->dH nm f []=true->dH nm f' []=true)
  (v:De.aQ nm (.mk k o t n e f b)=true):De.aQ nm (.mk k o t n' e' f' b')=true:=by
 unfold De.aQ at v |-;rw[bZ]at v |-;refine⟨hn,?_⟩;have v:=v.2;rw[ln,le,lf,lb];by_cases h4:k=4
 .have ht:=hf h4;subst h4;simp at v |-;simp[v,ht]
 .simp only[aj h4]at v |-;exact v
def Ex.ry{nm:Bz->Bool}{k o n m e:Int}{t:Bz}{a:List Ex}(h:Ex.aQ nm (.mk k o n m e t a)=true)(ha:∀x,x∈a->(Pa.ex x).valid nm=true):(Pa.ex (.mk k o n m e t a)).valid nm=true:=
 Pa.eQ.2 ⟨h,fun q hq=>by simp only[Pa.kids,cE]at hq;obtain⟨x,hx,rfl⟩:=hq;exact ha x hx⟩
def Sm.ry{nm:Bz->Bool}{l:List Bz}{k:Int}{t:Bz}{g e:List Ex}{h:List El}{d:List De}{b:List Sm}(v:Sm.aQ nm (.mk l k t g e h d b)=true)
  (vg:∀x,x∈g->(Pa.ex x).valid nm=true) (ve:∀x,x∈e->(Pa.ex x).valid nm=true) (vh:∀x,x∈h->(Pa.el x).valid nm=true) (vd:∀x,x∈d->(Pa.de x).valid nm=true) (vb:∀x,x∈b->(Pa.st x).valid nm=true):(Pa.st (.mk l k t g e h d b)).valid nm=true:=
 Pa.eQ.2 ⟨v,fun q hq=>by
  simp only[Pa.kids,cC,cE]at hq;rcases hq with ⟨x,hx,rfl⟩|⟨x,hx,rfl⟩|⟨x,hx,rfl⟩|⟨x,hx,rfl⟩|⟨x,hx,rfl⟩
  .exact vg x hx
  .exact ve x hx
  .exact vh x hx
  .exact vd x hx
  .exact vb x hx⟩
def De.ry{nm:Bz->Bool}{k:Int}{o:Bool}{t:Int}{n:List Bz}{e:List Ex}{f:List Fo}{b:List Sm}(v:De.aQ nm (.mk k o t n e f b)=true)
  (ve:∀x,x∈e->(Pa.ex x).valid nm=true) (vb:∀x,x∈b->(Pa.st x).valid nm=true):(Pa.de (.mk k o t n e f b)).valid nm=true:=
 Pa.eQ.2 ⟨v,fun q hq=>by
  simp only[Pa.kids,cC,cE]at hq;rcases hq with ⟨x,hx,rfl⟩|⟨x,hx,rfl⟩
  .exact ve x hx
  .exact vb x hx⟩
def El.kO{nm:Bz->Bool}{e:El}(v:(Pa.el e).valid nm=true):∀x,x∈e.ak->(Pa.ex x).valid nm=true:=fun x hx=>(Pa.eQ.1 v).2 _ (by simp only[Pa.kids,cE];exact⟨x,hx,rfl⟩)
def El.ry{nm:Bz->Bool}{e:El}{a:List Ex}(v:(Pa.el e).valid nm=true)(hl:a.length=e.ak.length)(ha:∀x,x∈a->(Pa.ex x).valid nm=true):(Pa.el ⟨e.kind,a⟩).valid nm=true:=
 Pa.eQ.2 ⟨by
  have:=(Pa.eQ.1 v).1;simp only[Pa.aQ,El.aQ]at this |-;rw[hl];exact this,fun q hq=>by simp only[Pa.kids,cE]at hq;obtain⟨x,hx,rfl⟩:=hq;exact ha x hx⟩
def TJ{nm:Bz->Bool}{φ:Fo->Fo}{ψ:Bz->Bz}(hφ:∀x,(φ x).name=ψ x.name/\(φ x).value=x.value/\(φ x).spec=x.spec/\(φ x).type=x.type):∀(l:List Fo) (had:List Bz),
  (∀x,x∈l->nm (ψ x.name)=true)->(∀x y,(x∈had\/x∈l.map Fo.name)->(y∈had\/y∈l.map Fo.name)->ψ x=ψ y->x=y)->dH nm l had=true->dH nm (l.map φ) (had.map ψ)=true
 |[],_,_,_,_=>rfl
 |x::l,had,hn,hi,h=>by
  simp only[b9,dH,bZ,vx,List.any_eq_false,cR]at h |-;obtain⟨⟨h1,h2⟩,h3⟩:=h;obtain⟨p1,p2,p3,p4⟩:=hφ x;refine⟨⟨?_,?_⟩,?_⟩
  .unfold Fo.aQ at h1 |-;rw[bZ]at h1 |-;rw[p1,p2,p3,p4];exact⟨hn x sM,h1.2⟩
  .intro y hy;obtain⟨z,hz,rfl⟩:=cE.1 hy;rw[p1];exact fun he=>h2 z hz (hi z x.name (.inl hz) (.inr sM) he)
  .have:=TJ hφ l (had++[x.name]) (fun y hy=>hn y (by simp[hy])) (fun a b ha hb=>hi a b (by simpa[or_assoc]using ha) (by simpa[or_assoc]using hb)) h3;rw[cy]at this;rw[p1];exact this
set_option linter.unusedSectionVars false
section
variable {nm:Bz->Bool} {f bs:Nat->Bz} (h1:∀j k,f j=f k->bs j=bs k) (hf:∀k,nm (bs k)=true->nm (f k)=true)
include h1 hf
theorem G8{sc:ag}(hb:ik bs sc){x:Bz}(hx:nm x=true):nm (dt f sc x)=true:=by
 unfold dt
 cases h:sc.at x with
 |none=>exact hx
 |some k=>exact hf k (by rw[A5 hb h];exact hx)
theorem Yp{sc:ag}(hb:ik bs sc){l:List Bz}(hx:∀x,x∈l->nm x=true):(l.map (dt f sc)).all nm=true:=by
 rw[d6];intro x h;obtain⟨y,hy,rfl⟩:=cE.1 h;exact G8 h1 hf hb (hx y hy)
theorem qiP{sc:ag}(hb:ik bs sc){x y:Bz}(hx:(sc.at x).isSome=true)(hy:(sc.at y).isSome=true)(h:dt f sc x=dt f sc y):x=y:=by
 unfold dt at h
 cases ha:sc.at x with
 |none=>rw[ha]at hx;cases hx
 |some j=>
  cases hk:sc.at y with
  |none=>rw[hk]at hy;cases hy
  |some k=>
   rw[ha,hk]at h;rw[<-A5 hb ha,<-A5 hb hk];exact h1 _ _ h
mutual
theorem Ex.td{sc:ag}(hb:ik bs sc):∀x:Ex,(Pa.ex x).valid nm=true->(Pa.ex (x.w f sc)).valid nm=true
 |.mk k o n m e t a,v=>by
  rw[Ex.w];refine Ex.ry (Ex.uZ (by rw[Ex.jM,bu]) (fun hn=>?_) (fun hn=>aj hn) (Pa.eQ.1 v).1) (Ex.oj hb a (Ex.xX v));rw[ai hn];exact G8 h1 hf hb (Ex.vm v hn)
theorem Ex.oj{sc:ag}(hb:ik bs sc):∀l:List Ex,(∀x,x∈l->(Pa.ex x).valid nm=true)->∀x,x∈Ex.wl f sc l->(Pa.ex x).valid nm=true
 |[],_,x,h=>by rw[Ex.wl]at h;cases h
 |y::l,v,x,h=>by
  rw[Ex.wl]at h;rcases cX.1 h with rfl| h
  .exact Ex.td hb y (v y sM)
  .exact Ex.oj hb l (fun z hz=>v z (by simp[hz])) x h
end
theorem El.td{sc:ag}(hb:ik bs sc)(e:El)(v:(Pa.el e).valid nm=true):(Pa.el (e.w f sc)).valid nm=true:=
 El.ry v (by rw[bu]) (by rw[<-Ex.jM];exact Ex.oj h1 hf hb e.ak (El.kO v))
omit h1 hf in
theorem Ex.qan{sc:ag}:∀l:List Ex,l.all Ex.tgt=true->(Ex.wl f sc l).all Ex.tgt=true
 |[],_=>rfl
 |x::l,h=>by
  simp only[vG,bZ,Ex.wl]at h |-;exact⟨by cases x;exact h.1,Ex.qan l h.2⟩
omit h1 hf in
theorem Sm.qag(s:Sm)(sc:ag)(n:Nat):(s.w f sc n).kind=s.kind:=by
 cases s;rw[Sm.w];split
 .rfl
 .split<;>rfl
omit h1 hf in
theorem Sm.qam(l:List Sm)(sc:ag)(n:Nat):Sm.jc (Sm.wl f sc n l)=Sm.jc l:=by
 cases l with
 |nil=>rfl
 |cons x l=>rw[Sm.wl,Sm.jc,Sm.jc,Sm.qag]
omit h1 hf in
theorem Sm.qmr(l:List Sm)(sc:ag)(n:Nat):Sm.jc (Sm.w1 f sc n l)=Sm.jc l:=by
 cases l with
 |nil=>rfl
 |cons x l=>rw[Sm.w1,Sm.jc,Sm.jc,Sm.qag]
omit h1 hf in
theorem Sm.tgts{l:List Bz}{k:Int}{t:Bz}{g e:List Ex}{h:List El}{d:List De}{b:List Sm}(v:Sm.aQ nm (.mk l k t g e h d b)=true):g.all Ex.tgt=true:=by
 unfold Sm.aQ at v;rw[bZ,bZ]at v;exact v.1.2
omit h1 hf in
theorem qX{α:Type}{P:α->Prop}:∀x,x∈([]:List α)->P x:=fun x h=>by cases h
mutual
theorem Sm.td:∀(s:Sm) (sc:ag) (n:Nat),ik bs sc->iw bs n s.bn->(Pa.st s).valid nm=true->(Pa.st (s.w f sc n)).valid nm=true
 |.mk l k t gs e hh d b,sc,n,hb,ha,v=>by
  obtain⟨v7,v8,v9⟩:=Sm.u9 v;have vd:=Sm.rx v;have vb:=Sm.jo v;have vo:Sm.aQ nm (.mk l k t gs e hh d b)=true:=(Pa.eQ.1 v).1;have vl:=Yp h1 hf hb (Sm.HM v);simp only[Sm.decls,Sm.body,Sm.labels]at vd vb vl;rw[Sm.bn]at ha;rw[Sm.w];by_cases h7:k=7
  .obtain⟨rfl,rfl,rfl⟩:=v7 h7;have h6:¬k=6:=by omega
   rw[ai h7]at ha |-;have hd:=ha.fst.snd;have hbb:=ha.snd;rw[cJ,De.ny,iW,<-gj,<-iR _ n 0]at hbb;rw[iW,<-iR _ n 0]at hd;have hs:=hb.cons ha.fst.fst;exact Sm.ry (Sm.uZ vl rfl rfl rfl rfl (De.tm _ _ _ _ _) (Sm.tm _ _ _ _) (fun h=>absurd h h6) (fun _=>rfl) (Sm.qam _ _ _) vo) qX qX qX (De.oj d _ _ _ hs hb hd vd) (Sm.oj b _ _ hs hbb vb)
  .rw[aj h7]at ha |-;by_cases h8:k=8
   .obtain⟨rfl,rfl,rfl,rfl⟩:=v8 h8;have h6:¬k=6:=by omega
    rw[ai h8]at ha |-;have hbb:=ha.snd;rw[iW,<-iR _ n 0]at hbb;exact Sm.ry (Sm.uZ vl rfl rfl rfl rfl rfl (Sm.tm _ _ _ _) (fun h=>absurd h h6) (fun _=>rfl) (Sm.qam _ _ _) vo) qX qX qX qX (Sm.oj b _ _ (hb.cons ha.fst) hbb vb)
   .obtain rfl:=v9 h7 h8;rw[aj h8]at ha |-;refine Sm.ry (Sm.uZ vl (Ex.qan gs (Sm.tgts vo)) (by rw[Ex.jM,bu]) (by rw[Ex.jM,bu]) (by rw[bu]) rfl (Sm.DZ _ _ _ _) (fun h=>?_) (fun h=>aj h) (Sm.qmr _ _ _) vo)
     (Ex.oj h1 hf hb gs (Sm.Aa v)) (Ex.oj h1 hf hb e (Sm.kO v)) (fun x hx=>?_) qX (Sm.NK b _ _ hb ha vb)
    .rw[ai h];exact G8 h1 hf hb (Sm.vm v h)
    .obtain⟨y,hy,rfl⟩:=cE.1 hx;exact El.td h1 hf hb y (Sm.zZ v y hy)
theorem De.td:∀(s:De) (own sc:ag) (n:Nat),ik bs own->ik bs sc->iw bs n s.bn->(Pa.de s).valid nm=true->(Pa.de (s.w f own sc n)).valid nm=true
 |.mk k o t ns e fo b,own,sc,n,ho,hb,ha,v=>by
  obtain⟨v4,v5⟩:=De.vi v;have vb:=De.jo v;have vo:De.aQ nm (.mk k o t ns e fo b)=true:=(Pa.eQ.1 v).1;have vl:=Yp h1 hf ho (De.qaf v);have vf:=De.qae v;simp only[De.body,De.names,De.aB]at vb vl vf;rw[De.bn]at ha;rw[De.w];by_cases h4:k=4
  .obtain rfl:=v4 h4;rw[ai h4]at ha |-;have hbb:=ha.snd;rw[iW,<-iR _ n 0]at hbb;have hs:=ho.cons ha.fst;refine De.ry (De.uZ vl (by rw[bu]) rfl (by rw[bu]) (Sm.DZ _ _ _ _) (fun _ hv=>?_) vo) qX (Sm.NK b _ _ hs hbb vb);have:=TJ (φ:=Fo.w f (ah (fo.map Fo.name) n::own)) (ψ:=dt f (ah (fo.map Fo.name) n::own)) (fun x=>⟨rfl,rfl,rfl,rfl⟩) fo [] (fun x hx=>G8 h1 hf hs (vf x hx)) (fun x y hx hy he=>?_) hv
   .exact this
   .exact qiP h1 hf hs (TI fo n own x (by simpa using hx)) (TI fo n own y (by simpa using hy)) he
  .obtain⟨rfl,rfl⟩:=v5 h4;rw[aj h4];refine De.ry (De.uZ vl (by rw[bu]) (by rw[Ex.jM,bu]) rfl rfl (fun h=>absurd h h4) vo) (Ex.oj h1 hf (by split<;>assumption) e (De.kO v)) qX
theorem De.oj:∀(l:List De) (own sc:ag) (n:Nat),ik bs own->ik bs sc->iw bs n (De.bS l)->(∀x,x∈l->(Pa.de x).valid nm=true)->∀x,x∈De.wl f own sc n l->(Pa.de x).valid nm=true
 |[],_,_,_,_,_,_,_,x,h=>by rw[De.wl]at h;cases h
 |y::l,own,sc,n,ho,hb,ha,v,x,h=>by
  rw[De.bS]at ha;have h2:=ha.snd;rw[De.jR]at h2;rw[De.wl]at h;rcases cX.1 h with rfl| h
  .exact De.td y own sc n ho hb ha.fst (v y sM)
  .exact De.oj l own sc _ ho hb h2 (fun z hz=>v z (by simp[hz])) x h
theorem Sm.oj:∀(l:List Sm) (sc:ag) (n:Nat),ik bs sc->iw bs n (Sm.bS l)->(∀x,x∈l->(Pa.st x).valid nm=true)->∀x,x∈Sm.wl f sc n l->(Pa.st x).valid nm=true
 |[],_,_,_,_,_,x,h=>by rw[Sm.wl]at h;cases h
 |y::l,sc,n,hb,ha,v,x,h=>by
  rw[Sm.bS]at ha;have h2:=ha.snd;rw[Sm.jR]at h2;rw[Sm.wl]at h;rcases cX.1 h with rfl| h
  .exact Sm.td y sc n hb ha.fst (v y sM)
  .exact Sm.oj l sc _ hb h2 (fun z hz=>v z (by simp[hz])) x h
theorem Sm.NK:∀(l:List Sm) (sc:ag) (n:Nat),ik bs sc->iw bs n (Sm.eS l)->(∀x,x∈l->(Pa.st x).valid nm=true)->∀x,x∈Sm.w1 f sc n l->(Pa.st x).valid nm=true
 |[],_,_,_,_,_,x,h=>by rw[Sm.w1]at h;cases h
 |y::l,sc,n,hb,ha,v,x,h=>by
  rw[Sm.eS]at ha;have h2:=ha.snd;have h3:=ha.fst.snd;rw[cJ,Sm.jR,iW,<-gj,<-iR _ n 0]at h2;rw[iW,<-iR _ n 0]at h3;have hs:=hb.cons (sc:=sc) ha.fst.fst;rw[Sm.w1]at h;rcases cX.1 h with rfl| h
  .exact Sm.td y _ _ hs h3 (v y sM)
  .exact Sm.NK l sc _ hb h2 (fun z hz=>v z (by simp[hz])) x h
end
end
set_option linter.unusedSectionVars false
section
variable {lk:Lk} {g:Nat->Bz} (hg:∀k,lk (g k)=none) {nm:Bz->Bool} (hv:∀x y,lk x=some y->(Pa.ex y).valid nm=true)
include hg hv
omit hg hv in
theorem Sm.qar{p:Pw}(s:Sm)(sc:ag)(n:Nat):(s.wr p sc n).kind=s.kind:=by
 cases s;rw[Sm.wr];split
 .rfl
 .split<;>rfl
omit hg hv in
theorem Sm.qn3{p:Pw}(l:List Sm)(sc:ag)(n:Nat):Sm.jc (Sm.aL p sc n l)=Sm.jc l:=by
 cases l with
 |nil=>rfl
 |cons x l=>rw[Sm.aL,Sm.jc,Sm.jc,Sm.qar]
omit hg hv in
theorem Sm.qn2{p:Pw}(l:List Sm)(sc:ag)(n:Nat):Sm.jc (Sm.dW p sc n l)=Sm.jc l:=by
 cases l with
 |nil=>rfl
 |cons x l=>rw[Sm.dW,Sm.jc,Sm.jc,Sm.qar]
end
structure Sr(r:Rp)(lk:Lk):Prop where
 f:r.fresh=[]
 m:∀x,mt r x=lk x
set_option linter.unusedSectionVars false
section
variable {r:Rp} {lk:Lk} {g:Nat->Bz} (hg:∀k,lk (g k)=none) (hr:Sr r lk) {nm:Bz->Bool}
include hg hr
theorem DU(sc:ag)(x:Bz):cN r sc x=x:=by unfold cN;cases sc.at x<;>simp[hr.f]
theorem ZP(sc:ag)(l:List Bz):l.map (cN r sc)=l:=by
 rw[lr fun x _=>DU hg hr sc x];simp
theorem qlO(sc:ag)(l:List Fo):l.map (Fo.rw r sc)=l:=by
 rw[lr fun x _=>(show Fo.rw r sc x=x by unfold Fo.rw;rw[DU hg hr])];simp
theorem ZQ{sc:ag}{t:Bz}(hb:jB lk sc t=false):j0 r sc t=jG lk sc t:=by
 unfold j0 jZ jG;unfold jB at hb
 cases hs:sc.at t with
 |some k=>simp only;exact DU hg hr sc t
 |none=>
  rw[hs]at hb;simp only[hr.m]at hb |-;unfold su at hb;unfold uP
  cases hy:lk t with
  |none=>simp only;exact DU hg hr sc t
  |some y=>
   rw[hy]at hb;simp only[decide_not,Bool.not_eq_false',cR]at hb;simp only[ai hb]
theorem ZR(sc:ag)(t:Bz)(st:bp):(jl r sc t st).bad=(st.bad||jB lk sc t):=by
 unfold jl jZ jx jB
 cases hs:sc.at t with
 |some k=>simp only
 |none=>
  simp only[hr.m];unfold su
  cases hy:lk t with
  |none=>simp only
  |some y=>simp only[decide_not]
theorem qlP(sc:ag)(t:Bz)(st:bp):(jx r sc t st).bad=st.bad:=by
 unfold jx;cases sc.at t<;>rfl
mutual
theorem Ex.uO(sc:ag)(tg:Bool):∀x:Ex,(Pa.ex x).valid nm=true->(x.w g sc).eu lk tg=false->x.wr (db lk) sc tg=x.rw r sc
 |.mk k o n m e t a,v,hb=>by
  have va:=Ex.xX v;simp only[Ex.args]at va;have h1:=(Pa.eQ.1 v).1;rw[Ex.w,Ex.eu,pC]at hb;have ih:=Ex.lR sc false a va hb.1;have hb:=hb.2
  have h2:Ex.wr (db lk) sc tg (.mk k o n m e t a)=if Ex.named k=true then(if k=6 then pe lk sc (.mk k o n m e t (Ex.aL (db lk) sc false a)) else .mk k o n m e (jG lk sc t) (Ex.aL (db lk) sc false a)) else .mk k o n m e t (Ex.aL (db lk) sc false a):=by
   rw[Ex.wr];rfl
  rw[h2,ih,Ex.rw];by_cases h6:k=6
  .subst h6;simp[Pa.aQ,Ex.aQ]at h1;obtain⟨⟨⟨⟨_,rfl⟩,rfl⟩,rfl⟩,rfl,rfl⟩:=h1;have hn:Ex.named 6=true:=rfl;rw[ai hn,ai rfl,ai rfl,DU hg hr];unfold pe jZ;simp only[Ex.text]
   cases hs:sc.at t with
   |some j=>rfl
   |none=>
    simp only[hr.m]
    cases hy:lk t with
    |none=>rfl
    |some y=>rfl
  .rw[aj h6]at hb |-;rw[aj h6];by_cases gP:k=7\/k=8
   .have hn:Ex.named k=true:=by unfold Ex.named;rcases gP with rfl|rfl<;>rfl
    rw[ai hn,hn,l8,zu hg]at hb;rw[ai hn,ai gP,ZQ hg hr hb]
   .have hn:Ex.named k=false:=by unfold Ex.named;simp;omega
    rw[aj gP,hn];rfl
theorem Ex.lR(sc:ag)(tg:Bool):∀l:List Ex,(∀x,x∈l->(Pa.ex x).valid nm=true)->Ex.bQ lk tg (Ex.wl g sc l)=false->Ex.aL (db lk) sc tg l=Ex.bk r sc l
 |[],_,_=>rfl
 |x::l,v,hb=>by
  rw[Ex.wl,Ex.bQ,pC]at hb;rw[Ex.aL,Ex.bk,Ex.uO sc tg x (v x sM) hb.1,Ex.lR sc tg l (fun y hy=>v y (by simp[hy])) hb.2]
end
theorem El.lR(sc:ag):∀l:List El,(∀x,x∈l->(Pa.el x).valid nm=true)->El.bQ lk (l.map (El.w g sc))=false->l.map (El.wr (db lk) sc)=l.map (El.rw r sc)
 |[],_,_=>rfl
 |x::l,v,hb=>by
  have hx:(El.w g sc x).ak=Ex.wl g sc x.ak:=by unfold El.w;rw[Ex.jM]
  rw[b9,El.bQ,pC,hx]at hb;rw[b9,b9,El.lR sc l (fun y hy=>v y (by simp[hy])) hb.2];congr 1;unfold El.wr El.rw;rw[Ex.lR hg hr sc false x.ak (El.kO (v x sM)) hb.1]
mutual
theorem Sm.uO:∀(s:Sm) (sc:ag) (n:Nat),(Pa.st s).valid nm=true->(s.w g sc n).eu lk=false->s.wr (db lk) sc n=s.rw r sc n
 |.mk l k t gs e hh d b,sc,n,v,hb=>by
  obtain⟨v7,v8,v9⟩:=Sm.u9 v;have vd:=Sm.rx v;have vb:=Sm.jo v;simp only[Sm.decls,Sm.body]at vd vb;rw[Sm.w]at hb;rw[Sm.wr,Sm.rw,Dp DD,ZP hg hr];by_cases h7:k=7
  .obtain⟨rfl,rfl,rfl⟩:=v7 h7;rw[ai h7,Sm.eu]at hb;simp only[pC]at hb;rw[ai h7,ai h7,De.lR d _ _ _ vd hb.1.1.2,Sm.lR b _ _ vb hb.1.2];rfl
  .by_cases h8:k=8
   .obtain⟨rfl,rfl,rfl,rfl⟩:=v8 h8;rw[aj h7,ai h8,Sm.eu]at hb;simp only[pC]at hb;rw[aj h7,aj h7,ai h8,ai h8,Sm.lR b _ _ vb hb.1.2];rfl
   .obtain rfl:=v9 h7 h8;rw[aj h7,aj h8,Sm.eu]at hb;simp only[pC]at hb;obtain⟨⟨⟨⟨⟨b1,b2⟩,b3⟩,_⟩,b5⟩,b6⟩:=hb;rw[aj h7,aj h7,aj h8,aj h8,Ex.lR hg hr sc true gs (Sm.Aa v) b1,Ex.lR hg hr sc false e (Sm.kO v) b2,El.lR hg hr sc hh (Sm.zZ v) b3,Sm.ML b sc n vb b5,qjh];by_cases h6:k=6
    .rw[ai h6,jC h6,l8,zu hg]at b6;rw[ai h6,ai h6,ZQ hg hr b6]
    .rw[aj h6,aj h6]
theorem De.uO:∀(s:De) (own sc:ag) (n:Nat),(Pa.de s).valid nm=true->(s.w g own sc n).eu lk=false->s.wr (db lk) own sc n=s.rw r own sc n
 |.mk k o t ns e fo b,own,sc,n,v,hb=>by
  obtain⟨v4,v5⟩:=De.vi v;have vb:=De.jo v;simp only[De.body]at vb;rw[De.w]at hb;rw[De.wr,De.rw,Dp DD,ZP hg hr];by_cases h4:k=4
  .obtain rfl:=v4 h4;rw[ai h4,De.eu,pC]at hb;rw[ai h4,ai h4,Fo.qaq DD,qlO hg hr,Sm.ML b _ _ vb hb.2];rfl
  .rw[aj h4,De.eu,pC]at hb;rw[aj h4,aj h4,Ex.lR hg hr _ false e (De.kO v) hb.1]
theorem De.lR:∀(l:List De) (own sc:ag) (n:Nat),(∀x,x∈l->(Pa.de x).valid nm=true)->De.bQ lk (De.wl g own sc n l)=false->De.aL (db lk) own sc n l=De.bk r own sc n l
 |[],_,_,_,_,_=>rfl
 |x::l,own,sc,n,v,hb=>by
  rw[De.wl,De.bQ,pC]at hb;rw[De.aL,De.bk,De.uO x own sc n (v x sM) hb.1,De.lR l own sc _ (fun y hy=>v y (by simp[hy])) hb.2]
theorem Sm.lR:∀(l:List Sm) (sc:ag) (n:Nat),(∀x,x∈l->(Pa.st x).valid nm=true)->Sm.bQ lk (Sm.wl g sc n l)=false->Sm.aL (db lk) sc n l=Sm.bk r sc n l
 |[],_,_,_,_=>rfl
 |x::l,sc,n,v,hb=>by
  rw[Sm.wl,Sm.bQ,pC]at hb;rw[Sm.aL,Sm.bk,Sm.uO x sc n (v x sM) hb.1,Sm.lR l sc _ (fun y hy=>v y (by simp[hy])) hb.2]
theorem Sm.ML:∀(l:List Sm) (sc:ag) (n:Nat),(∀x,x∈l->(Pa.st x).valid nm=true)->Sm.bQ lk (Sm.w1 g sc n l)=false->Sm.dW (db lk) sc n l=Sm.fY r sc n l
 |[],_,_,_,_=>rfl
 |x::l,sc,n,v,hb=>by
  rw[Sm.w1,Sm.bQ,pC]at hb;rw[Sm.dW,Sm.fY,Sm.uO x _ _ (v x sM) hb.1,Sm.ML l sc _ (fun y hy=>v y (by simp[hy])) hb.2]
end
mutual
theorem Ex.sD(sc:ag):∀(x:Ex) (st:bp),(Pa.ex x).valid nm=true->(x.rs r sc st).bad=(st.bad||(x.w g sc).eu lk false)
 |.mk k o n m e t a,st,v=>by
  have va:=Ex.xX v;simp only[Ex.args]at va;have h1:=(Pa.eQ.1 v).1;rw[Ex.rs,Ex.w,Ex.eu];by_cases h6:k=6
  .subst h6;simp[Pa.aQ,Ex.aQ]at h1;obtain⟨⟨⟨⟨_,rfl⟩,rfl⟩,rfl⟩,rfl,rfl⟩:=h1;rw[ai rfl,ai rfl,qlP hg hr,Ex.wl,Ex.bQ];have:∀u,sQ lk false u=false:=fun u=>by unfold sQ;cases lk u<;>simp
   rw[this];simp
  .rw[aj h6,aj h6,Ex.mG sc a _ va];by_cases gP:k=7\/k=8
   .have hn:Ex.named k=true:=by unfold Ex.named;rcases gP with rfl|rfl<;>rfl
    rw[ai gP,ZR hg hr,hn,ai rfl,zu hg,l8,jg,Bool.or_comm (jB lk sc t)]
   .have hn:Ex.named k=false:=by unfold Ex.named;simp;omega
    rw[aj gP,hn,Aj,i5]
theorem Ex.mG(sc:ag):∀(l:List Ex) (st:bp),(∀x,x∈l->(Pa.ex x).valid nm=true)->(Ex.aP r sc st l).bad=(st.bad||Ex.bQ lk false (Ex.wl g sc l))
 |[],st,_=>by rw[Ex.aP,Ex.wl,Ex.bQ,i5]
 |x::l,st,v=>by
  rw[Ex.aP,Ex.mG sc l _ fun y hy=>v y (by simp[hy]),Ex.sD sc x st (v x sM),Ex.wl,Ex.bQ,jg]
end
theorem Ex.qjj(sc:ag)(x:Ex)(v:(Pa.ex x).valid nm=true)(ht:x.tgt=true):
  ((x.w g sc).eu lk false||(decide ((x.rw r sc).kind≠6)&&decide ((x.rw r sc).kind≠7)))=(x.w g sc).eu lk true:=by
 cases x with
 |mk k o n m e t a=>
  have h1:=(Pa.eQ.1 v).1;rw[Ex.w,Ex.eu,Ex.eu,Ex.rw];by_cases h6:k=6
  .subst h6;have hn:Ex.named 6=true:=rfl;rw[ai rfl,ai rfl,ai rfl,ai hn,Ny hg,Ny hg];unfold jZ pw
   cases hs:sc.at t with
   |some j=>simp[Ex.kind]
   |none=>
    simp only[hr.m];unfold sQ
    cases hy:lk t with
    |none=>simp[Ex.kind]
    |some y=>simp
  .have h7:k=7:=by
    have ht:k=6\/k=7:=of_decide_eq_true ht;exact ht.resolve_left h6
   subst h7;simp[Ex.kind]
theorem Ex.YN(sc:ag):∀(l:List Ex) (st:bp),(∀x,x∈l->(Pa.ex x).valid nm=true)->l.all Ex.tgt=true->((Ex.aP r sc st l).bad||j8 (Ex.bk r sc l))=(st.bad||Ex.bQ lk true (Ex.wl g sc l))
 |[],st,_,_=>by rw[Ex.aP,Ex.wl,Ex.bQ,Ex.bk];rfl
 |x::l,st,v,ht=>by
  rw[vG,bZ]at ht;have h1:=Ex.YN sc l (Ex.rs r sc st x) (fun y hy=>v y (by simp[hy])) ht.2;have h2:=Ex.sD hg hr sc x st (v x sM);have h3:=Ex.qjj hg hr sc x (v x sM) ht.1
  have h4:j8 (Ex.bk r sc (x::l))=((decide ((x.rw r sc).kind≠6)&&decide ((x.rw r sc).kind≠7))||j8 (Ex.bk r sc l)):=by
   rw[Ex.bk];unfold j8;rw[List.any_cons]
  rw[Ex.aP,h4,Ex.wl,Ex.bQ,<-h3];generalize (decide ((x.rw r sc).kind≠6)&&decide ((x.rw r sc).kind≠7))=c at *;have e:((Ex.aP r sc (Ex.rs r sc st x) l).bad||(c||j8 (Ex.bk r sc l)))=(((Ex.aP r sc (Ex.rs r sc st x) l).bad||j8 (Ex.bk r sc l))||c):=by ac_rfl
  rw[e,h1,h2];ac_rfl
theorem El.mG(sc:ag):∀(l:List El) (st:bp),(∀x,x∈l->(Pa.el x).valid nm=true)->(El.aP r sc st l).bad=(st.bad||El.bQ lk (l.map (El.w g sc)))
 |[],st,_=>by rw[jj,El.bQ,i5];rfl
 |x::l,st,v=>by
  have hx:(El.w g sc x).ak=Ex.wl g sc x.ak:=by unfold El.w;rw[Ex.jM]
  have h1:=El.mG sc l (Ex.aP r sc st x.ak) fun y hy=>v y (by simp[hy])
  show(El.aP r sc (Ex.aP r sc st x.ak) l).bad=_;rw[h1,Ex.mG hg hr sc x.ak st (El.kO (v x sM)),b9,El.bQ,hx,jg]
mutual
theorem Sm.sD:∀(s:Sm) (sc:ag) (n:Nat) (st:bp),(Pa.st s).valid nm=true->(s.rs r sc n st).bad=(st.bad||(s.w g sc n).eu lk)
 |.mk l k t gs e hh d b,sc,n,st,v=>by
  obtain⟨v7,v8,v9⟩:=Sm.u9 v;have vd:=Sm.rx v;have vb:=Sm.jo v;have vo:Sm.aQ nm (.mk l k t gs e hh d b)=true:=(Pa.eQ.1 v).1;simp only[Sm.decls,Sm.body]at vd vb;rw[Sm.rs,Sm.w];by_cases h7:k=7
  .obtain⟨rfl,rfl,rfl⟩:=v7 h7;have h6:¬k=6:=by omega
   rw[ai h7,ai h7,Sm.eu,Sm.mG b _ _ _ vb,De.mG d _ _ _ _ vd,dy h6];simp[Ex.bQ,El.bQ,jg]
  .rw[aj h7,aj h7];by_cases h8:k=8
   .obtain⟨rfl,rfl,rfl,rfl⟩:=v8 h8;have h6:¬k=6:=by omega
    rw[ai h8,ai h8,Sm.eu,Sm.mG b _ _ _ vb,dy h6];simp[Ex.bQ,El.bQ,De.bQ]
   .have uc:∀st',(qq r sc st' gs).bad=(st'.bad||Ex.bQ lk true (Ex.wl g sc gs)):=fun st'=>Ex.YN hg hr sc gs st' (Sm.Aa v) (Sm.tgts vo)
    rw[aj h8,aj h8,Sm.eu,Sm.MK b _ _ _ vb,Ex.mG hg hr sc e _ (Sm.kO v),El.mG hg hr sc hh _ (Sm.zZ v),uc];by_cases h6:k=6
    .rw[ai h6,ai h6,jC h6,ZR hg hr,zu hg];simp only[De.bQ,i5,l8];ac_rfl
    .rw[aj h6,aj h6,dy h6];simp only[De.bQ,i5,Aj];ac_rfl
theorem De.sD:∀(s:De) (own sc:ag) (n:Nat) (st:bp),(Pa.de s).valid nm=true->(s.rs r own sc n st).bad=(st.bad||(s.w g own sc n).eu lk)
 |.mk k o t ns e fo b,own,sc,n,st,v=>by
  obtain⟨v4,v5⟩:=De.vi v;have vb:=De.jo v;simp only[De.body]at vb;rw[De.rs,De.w];by_cases h4:k=4
  .obtain rfl:=v4 h4;rw[ai h4,ai h4,De.eu,Sm.MK b _ _ _ vb];simp[Ex.bQ,Ex.aP]
  .rw[aj h4,aj h4,De.eu,Ex.mG hg hr _ e st (De.kO v)];simp[Sm.bQ]
theorem De.mG:∀(l:List De) (own sc:ag) (n:Nat) (st:bp),(∀x,x∈l->(Pa.de x).valid nm=true)->(De.aP r own sc n st l).bad=(st.bad||De.bQ lk (De.wl g own sc n l))
 |[],_,_,_,st,_=>by rw[De.aP,De.wl,De.bQ,i5]
 |x::l,own,sc,n,st,v=>by
  rw[De.aP,De.mG l own sc _ _ fun y hy=>v y (by simp[hy]),De.sD x own sc n st (v x sM),De.wl,De.bQ,jg]
theorem Sm.mG:∀(l:List Sm) (sc:ag) (n:Nat) (st:bp),(∀x,x∈l->(Pa.st x).valid nm=true)->(Sm.aP r sc n st l).bad=(st.bad||Sm.bQ lk (Sm.wl g sc n l))
 |[],_,_,st,_=>by rw[Sm.aP,Sm.wl,Sm.bQ,i5]
 |x::l,sc,n,st,v=>by
  rw[Sm.aP,Sm.mG l sc _ _ fun y hy=>v y (by simp[hy]),Sm.sD x sc n st (v x sM),Sm.wl,Sm.bQ,jg]
theorem Sm.MK:∀(l:List Sm) (sc:ag) (n:Nat) (st:bp),(∀x,x∈l->(Pa.st x).valid nm=true)->(Sm.ip r sc n st l).bad=(st.bad||Sm.bQ lk (Sm.w1 g sc n l))
 |[],_,_,st,_=>by rw[Sm.ip,Sm.w1,Sm.bQ,i5]
 |x::l,sc,n,st,v=>by
  rw[Sm.ip,Sm.MK l sc _ _ fun y hy=>v y (by simp[hy]),Sm.sD x _ _ st (v x sM),Sm.w1,Sm.bQ,jg]
end
end
section
variable {u:Bz}
end
def Sm.Tz{lk:Lk}{g:Nat->Bz}(hg:∀k,lk (g k)=none){nm:Bz->Bool}(s:Sm)(v:(Pa.st s).valid nm=true):fP (s.kP (db lk) (false:Bool))=(s.whole g).eu lk:=by
 have h1:fP (enters (db lk) (false:Bool) (ah s.labels 0))=false:=DC (lk:=lk) (ah s.labels 0) (false:Bool);have h2:=Sm.sC hg s [ah s.labels 0] (ah s.labels 0).length (enters (db lk) (false:Bool) (ah s.labels 0)) v;rw[h1,Ak]at h2;exact h2
section
variable {s:Sm} {l:List Bz} {es:List Ae} {g:Nat->Bz} (va:(Pa.st s).valid ar=true) (hl:s.frees.length+Sm.aX [s]+(jJ l es).length<=899) (hg:∀k,cw es (g k)=none)
include va hl hg
end
end Go.Proofs.YtbifpocccfkhhaaGreatDoor


namespace Go.Proofs.YtbifpocccfkhhaaGreatDoor
open Go Go.Proofs.Tryz
def sE(s:Sm)(l:List Bz)(xs:List Ex):Int:=if(Pa.st s).err ar≠0 then(Pa.st s).err ar else if fX l xs≠0 then fX l xs else qp s l (l.zip xs)
def sV(s:Sm)(l:List Bz)(xs:List Ex):V:=if sE s l xs=0 then(jz s l (l.zip xs)).v else bX
def qlo(s:Sm)(hs:s.ok)(hsz:(Pa.st s).size<=4000)(b b':Bool)(l:List Bz)(xs:List Ex)(hl:l.length<=1000)(hx:xs.length<=1000)(hz:∀x,x∈xs->(Pa.ex x).size<=4000)(ho:∀x,x∈xs->x.ok)
  (hfr:s.frees.length+Sm.aX [s]+(jJ l (l.zip xs)).length<=899) (S:St):
  au prog 32 [s.v,.sl b (l.map .str),.sl b' (xs.map Ex.v)] S (fun r U=>r=.aH [sV s l xs,.int .i64 (sE s l xs)]/\Kp (fun _=>False) S U):=by
 refine au.ib P3 ?_;obtain⟨S1,hS1⟩:∃S1:St,S1=S++[.arr [s.v] 8 1,.arr [bX] 8 1]:=⟨_,rfl⟩;have b0:S1[S.length]?=some (.arr [s.v] 8 1):=by rw[hS1];simp
 have b1:S1[S.length+1]?=some (.arr [bX] 8 1):=by rw[hS1,bK oM];simp
 have kS:Kp (fun _=>False) S S1:=by rw[hS1];exact(Kp.refl _ _).push _
 have d0:ae S1 (.ptr S.length 0 0 1) (some 8)=some s.v:=by simp[ae,b0]
 have he:sE s l xs=if(Pa.st s).err ar≠0 then(Pa.st s).err ar else if fX l xs≠0 then fX l xs else qp s l (l.zip xs):=rfl
 have hv:sV s l xs=if sE s l xs=0 then(jz s l (l.zip xs)).v else bX:=rfl
 have fin:∀(Y:St) (y:V) (e:Int) (ev:af),Kp (fun _=>False) S1 Y->sV s l xs=y->sE s l xs=e->ev.get 6=some (.ptr (S.length+1) 0 0 1)->ev.get 7=some (.int .i64 e)->V.part y 0 (some 8)=some y->
   eH [.cell 6 (some 8),.t 7] S.length (fun r U=>r=.aH [sV s l xs,.int .i64 (sE s l xs)]/\Kp (fun _=>False) S U) .ret ev (Y.set (S.length+1) (.arr [y] 8 1)):=fun Y y e ev kY hy he g6 g7 hp=>by
  have h1:=kY.at b1 id;have h2:(Y.set (S.length+1) (.arr [y] 8 1))[S.length+1]?=some (.arr [y] 8 1):=bJ (aM h1);exact aS (vs:=[y,.int .i64 e]) (by simp[dm,g6,g7,ae,h2,hp]) ⟨by rw[hy,he];rfl,(kS.trans kY).set _ (.inr oM)⟩
 simp[P3,aC];rw[<-hS1];simp[d0];refine aG (ZH s hs S1) ?_;by_cases h0:(Pa.st s).err ar=0
 case neg=>
  rw[ai h0]at he;rw[he,aj h0]at hv;simp[h0,bz,bj,aA,b1,aE];refine fin _ bX _ _ (Kp.refl _ _) hv he ?_ ?_ rfl<;>simp
 rw[aj (by rw[h0];simp)]at he;have va:=(pS h0).2;simp[h0];refine aU (ZM b b' l xs hl hx ho S1) ?_;rintro r U ⟨kU,⟨hp,rfl⟩|⟨hp,m,bs,ck,hm,rfl,hst,Ks⟩⟩
 .have c1:=kU.at b1 id;rw[ai hp]at he;rw[he,aj hp]at hv;simp[hp,bz,bj,aA,c1,aE];refine fin _ bX _ _ kU hv he ?_ ?_ rfl<;>simp
 .rw[aj (by rw[hp];simp)]at he;have c0:=kU.at b0 id;have dU:ae U (.ptr S.length 0 0 1) (some 8)=some s.v:=by simp[ae,c0]
  simp[dU];refine aU (qlG s hs va hsz b l (l.zip xs) hl (fun e he=>hz _ (qD (a:=e.1) (b:=e.2) he).2) (fun e he=>ho _ (qD (a:=e.1) (b:=e.2) he).2) hfr m bs ck hst.1 hst.2 U Ks) ?_;rintro r U2 ⟨rfl,Cf⟩;have c1:=(kU.trans Cf).at b1 id;have hvv:sV s l xs=xU s l (l.zip xs):=by rw[hv,he];rfl
  obtain⟨y,hy⟩:∃y,y=xU s l (l.zip xs):=⟨_,rfl⟩
  have hyp:V.part y 0 (some 8)=some y/\V.upd bX 0 8 y=some y:=by
   rw[hy];unfold xU;split
   .exact⟨sx _,by unfold bX;rw[aE];simp⟩
   .exact⟨rfl,rfl⟩
  have hy2:=hyp.2;unfold bX at hy2 c1;rw[<-hy];simp[aA,c1,hy2];refine fin _ y _ _ (kU.trans Cf) (hvv.trans hy.symm) he ?_ ?_ hyp.1<;>simp
end Go.Proofs.YtbifpocccfkhhaaGreatDoor

namespace Go.Proofs.YtbifpocccfkhhaaGreatDoor
open Go Go.Proofs.Tryz
set_option maxHeartbeats 0
set_option maxRecDepth 100000
noncomputable def P5:=aI func41
def Gs.rdK{w:Nat}{F:Np}{xs:List Bz}{v:V}{S:St}(h:Gs w F xs v S)(U:St)(hk:Kp (fun _=>False) S U):Rd v xs U:=by
 rcases h with ⟨rfl,rfl⟩|⟨l,wr,h1,h2,rfl,h4,h5⟩
 .exact Rd.sl true [] U
 .exact Rd.arr (hk.at h4 id) h5
section
variable {nm:Bz->Bool} (r:Rp) (z:Bz)
mutual
theorem Ex.Yw:∀(x:Ex) (st:bp),(Pa.ex x).valid nm=true->(z∈(Ex.rs r [] st x).free↔z∈st.free\/z∈Ex.eo x)
 |.mk k o n m e t a,st,v=>by
  have va:=Ex.xX v;simp only[Ex.args]at va;have h1:=(Pa.eQ.1 v).1;have hu:(jx r [] t st).free=st.free++[t]:=rfl;have h2:(jl r [] t st).free=st.free++[t]:=rfl;rw[Ex.rs,Ex.eo,cC];by_cases h6:k=6
  .subst h6;have hn:Ex.named 6=true:=rfl;simp[Pa.aQ,Ex.aQ]at h1;obtain⟨⟨⟨⟨_,rfl⟩,rfl⟩,rfl⟩,rfl,rfl⟩:=h1;rw[ai rfl,hu,hn,ai rfl];simp[Ex.cf]
  .rw[aj h6,Ex.Yy a _ va];by_cases gP:k=7\/k=8
   .have hn:Ex.named k=true:=by unfold Ex.named;rcases gP with rfl|rfl<;>rfl
    rw[ai gP,hn,ai rfl,h2,cC,V0]
   .have hn:Ex.named k=false:=by unfold Ex.named;simp;omega
    rw[aj gP,hn];simp
theorem Ex.Yy:∀(l:List Ex) (st:bp),(∀x,x∈l->(Pa.ex x).valid nm=true)->(z∈(Ex.aP r [] st l).free↔z∈st.free\/z∈Ex.cf l)
 |[],st,_=>by simp[Ex.aP,Ex.cf]
 |x::l,st,v=>by
  rw[Ex.aP,Ex.cf,Ex.Yy l _ fun y hy=>v y (by simp[hy]),Ex.Yw x st (v x sM),cC,or_assoc]
end
end
def Ex.names(x:Ex):List Bz:=sJ ((Ex.cf [x]).foldl dQ [])
def Ex.qgY(x:Ex)(v:(Pa.ex x).valid ar=true):(x.rs r0 [] eT).free.foldl gq []=x.names:=
 Ze (Gu vR) fun z=>by
  rw[qa];refine(Ex.Yw r0 z x eT v).trans ?_;simp[eT,Ex.cf]
def qlq(x:Ex)(hsz:(Pa.ex x).size<=4000)(v:(Pa.ex x).valid ar=true)(S:St):
  au prog 41 [x.v] S (fun r U=>r=.sl false (x.names.map .str)/\Kp (fun _=>False) S U):=by
 refine au.ib P5 ?_;obtain⟨S1,hS1⟩:∃S1:St,S1=S++[.arr [x.v] 7 1,tj (.sl true [])]:=⟨_,rfl⟩;have b0:S1[S.length]?=some (.arr [x.v] 7 1):=by rw[hS1];simp
 have b2:S1[S.length+1]?=some (tj (.sl true [])):=by rw[hS1,bK oM];simp
 have kS:Kp (fun _=>False) S S1:=by rw[hS1];exact(Kp.refl _ _).push _
 have CC:ae S1 (.ptr S.length 0 0 1) (some 7)=some x.v:=by simp[ae,b0]
 have k1:Rk r0 true true (S.length+1) (.sl true []) [] eT (fun _=>False) (fun _=>False) S1:=Rk.start b2 (.inl ⟨rfl,rfl⟩) (fun _ h=>h.elim) id;simp[P5,aC,bz,bj];rw[<-hS1];simp[CC];have p:=HG r0 Yl true true (S.length+1) (.sl true []) 4000 x hsz bL [] eT _ _ S1 true [] k1 (fun _ h=>by cases h) (by show 0<=_;omega) (by show 0+_<=_;omega);simp only[ag.flat,jj]at p;refine aU p ?_;rintro r U ⟨rfl,F1,D1,k2,s2⟩
 have lG:Kp (fun _=>False) S U:=⟨fL kS.len s2.k.len,fun l hl hn=>by
  rw[s2.k.get l (by have:=kS.len;omega) (by rintro(hh|hh);omega;exact hh)];exact kS.get l hl hn⟩
 obtain⟨vb,vf,w1,w2,w3,w4⟩:=k2.wx;have La:ae U (.ptr (S.length+1) 0 1 1) none=some vf:=by unfold dK at w1;simp[ae,w1]
 have hlen:=Ex.uM r0 [] x eT;have h0:eT.free.length=0:=rfl;have q:=qlr vf _ oM U w3.rdK;rw[x.qgY v]at q;simp[La,cF];refine aU q ?_;rintro r U2 ⟨rfl,k3⟩;simp;exact aS rfl ⟨rfl,lG.trans k3⟩
def Ex.zp(x:Ex):x.names.length<=(Pa.ex x).size:=by
 unfold Ex.names;rw[Zd];have h1:=zb (l:=Ex.cf [x]) (ks:=[]);have h2:=Ex.LP x;simp only[Ex.cf,kR,kj]at h1 |-;omega
def qi9{s:Sm}{l:List Bz}{xs:List Ex}(h:sE s l xs=0):(Pa.st s).err ar=0/\fX l xs=0/\(Pa.st (eX s l (l.zip xs))).err ar=0/\nZ s l (l.zip xs)=false/\(Pa.st (jz s l (l.zip xs))).err ar=0:=by
 unfold sE at h;by_cases h0:(Pa.st s).err ar=0
 case neg=>rw[ai h0]at h;exact absurd h h0
 rw[aj (by rw[h0];simp)]at h;by_cases h1:fX l xs=0
 case neg=>rw[ai h1]at h;exact absurd h h1
 rw[aj (by rw[h1];simp)]at h;unfold qp at h;by_cases h2:(Pa.st (eX s l (l.zip xs))).err ar=0
 case neg=>rw[ai h2]at h;exact absurd h h2
 rw[aj (by rw[h2];simp)]at h
 cases h3:nZ s l (l.zip xs) with
 |true=>rw[h3]at h;simp at h
 |false=>
  rw[h3]at h;exact⟨h0,h1,h2,rfl,by simpa using h⟩
def rA(es:List Ae):Prop:=∀e,e∈es->ar e.1=true/\(Pa.ex e.2).valid ar=true
def rA.lk{es:List Ae}(h:rA es)(k:Nat):cw es (mF k)=none:=by
 cases hl:cw es (mF k) with
 |none=>rfl
 |some y=>
  have:=(h _ (xe hl)).1;rw[LN]at this;cases this
def qja(s:Sm)(l:List Bz)(xs:List Ex):(sV s l xs).size=8/\(sV s l xs).cells.all V.flat=true/\V.part (sV s l xs) 0 (some 8)=some (sV s l xs):=by
 unfold sV;split
 .exact⟨Sm.eP _,by simp,sx _⟩
 .exact⟨rfl,rfl,rfl⟩
def Ni{z:V}(z8:z.size=8/\z.cells.all V.flat=true/\V.part z 0 (some 8)=some z)(U:St):
 aA (U++[.arr [.agg [.sl true [],.int .i64 0,.str ⟨⟨[]⟩⟩,.sl true [],.sl true [],.sl true [],.sl true [],.sl true []]] 8 1]) (.ptr U.length 0 0 1) 8 z=some (U++[.arr [z] 8 1]):=by simp[aA,aE,z8]
def Vh{z:V}(z8:z.size=8/\z.cells.all V.flat=true/\V.part z 0 (some 8)=some z){U W:St}(k:Kp (fun _=>False) (U++[.arr [z] 8 1]) W):ae W (.ptr U.length 0 0 1) (some 8)=some z:=by
 have c:=k.at (l:=U.length) (o:=.arr [z] 8 1) sM id;simp[ae,c,z8]
def fJ(l:List Bz)(xs:List Ex):Rp:=⟨[],l,xs⟩
def VF(x:Bz):∀(l:List Bz) (xs:List Ex),mU l xs x=cw (l.zip xs) x
 |[],xs=>by simp[mU,cw]
 |y::l,[]=>by simp[mU,cw]
 |y::l,z::xs=>by
  rw[mU,EJ];simp only[cw];rw[VF x l xs]
def Hq(l:List Bz)(xs:List Ex):Sr (fJ l xs) (cw (l.zip xs)):=⟨rfl,fun x=>VF x l xs⟩
def S7:∀{xs:List Ex},jU xs=0->∀x,x∈xs->(Pa.ex x).err ar=0
 |y::xs,h,x,hx=>by
  rw[jU]at h;by_cases h0:(Pa.ex y).err ar=0
  .rw[aj (by rw[h0];simp)]at h;rcases cX.1 hx with rfl|hx
   .exact h0
   .exact S7 h x hx
  .rw[ai h0]at h;exact absurd h h0
def L0{l:List Bz}{xs:List Ex}(h:fX l xs=0):l.length=xs.length/\(∀x,x∈l->ar x=true)/\l.Nodup/\∀x,x∈xs->(Pa.ex x).err ar=0:=by
 unfold fX at h;split at h
 .cases h
 .rename_i h1;split at h
  .cases h
  .rename_i h2;refine⟨Classical.byContradiction fun hh=>h1 (.inl hh),fun x hx=>?_,Classical.not_not.1 h2,S7 h⟩
   cases hn:ar x with
   |true=>rfl
   |false=>
    refine absurd (.inr ?_) h1;unfold fj;rw[rD];exact⟨x,hx,by simp[hn]⟩
def rA.all{l:List Bz}{xs:List Ex}(h:fX l xs=0):rA (l.zip xs):=fun e he=>by
 obtain⟨_,h2,_,h4⟩:=L0 h;have:=qD (a:=e.1) (b:=e.2) he;exact⟨h2 _ this.1,(pS (h4 _ this.2)).2⟩
def qjm{x:Ex}{l:List Bz}{xs:List Ex}(v:(Pa.ex x).valid ar=true)(hp:fX l xs=0):(x.rs (fJ l xs) [] eT).bad=qm x (l.zip xs):=by
 have he:=rA.all hp;have h1:=Ex.sD (g:=mF) he.lk (Hq l xs) [] x eT v;have h2:=Ex.sC (lk:=cw (l.zip xs)) (g:=mF) he.lk [] false x (false:Bool);rw[h1];exact h2.symm
def qjn{x:Ex}{l:List Bz}{xs:List Ex}(v:(Pa.ex x).valid ar=true)(hp:fX l xs=0)(hf:qm x (l.zip xs)=false):x.rw (fJ l xs) []=nW x (l.zip xs):=by
 have he:=rA.all hp;have h2:=Ex.sC (lk:=cw (l.zip xs)) (g:=mF) he.lk [] false x (false:Bool)
 have h3:((x.w mF []).eu (cw (l.zip xs)) false)=false:=by
  have:qm x (l.zip xs)=(fP (false:Bool)||(x.w mF []).eu (cw (l.zip xs)) false):=h2;rw[hf]at this;simpa[fP]using this.symm
 exact(Ex.uO (g:=mF) he.lk (Hq l xs) [] false x v h3).symm
def qlw(x:Ex)(hx:x.ok)(hsz:(Pa.ex x).size<=4000)(h0:(Pa.ex x).err ar=0)(b b':Bool)(l:List Bz)(xs:List Ex)(hl:l.length<=1000)(hxl:xs.length<=1000)(ho:∀x,x∈xs->x.ok)(S:St):
  au prog 50 [x.v,.sl b (l.map .str),.sl b' (xs.map Ex.v)] S (fun r U=>r=.aH [j7 x l xs,.int .i64 (j6 x l xs)]/\Kp (fun _=>False) S U):=by
 refine au.ib Qb ?_;obtain⟨S1,hS1⟩:∃S1:St,S1=S++[.arr [x.v] 7 1,.arr [eD] 7 1]:=⟨_,rfl⟩;have b0:S1[S.length]?=some (.arr [x.v] 7 1):=by rw[hS1];simp
 have b1:S1[S.length+1]?=some (.arr [eD] 7 1):=by rw[hS1,bK oM];simp
 have l1:S1.length=S.length+2:=by rw[hS1];simp
 have kS:Kp (fun _=>False) S S1:=by rw[hS1];exact(Kp.refl _ _).push _
 have v:=(pS h0).2
 have he:j6 x l xs=if fX l xs≠0 then fX l xs else if qm x (l.zip xs)=true then 10 else(Pa.ex (nW x (l.zip xs))).err ar:=by
  unfold j6;rw[aj (by rw[h0];simp)]
 have hv:j7 x l xs=if j6 x l xs=0 then(nW x (l.zip xs)).v else eD:=rfl
 have fin:∀(Y:St) (y:V) (e:Int) (ev:af),Kp (fun _=>False) S1 Y->j7 x l xs=y->j6 x l xs=e->ev.get 6=some (.ptr (S.length+1) 0 0 1)->ev.get 7=some (.int .i64 e)->V.part y 0 (some 7)=some y->
   eH [.cell 6 (some 7),.t 7] S.length (fun r U=>r=.aH [j7 x l xs,.int .i64 (j6 x l xs)]/\Kp (fun _=>False) S U) .ret ev (Y.set (S.length+1) (.arr [y] 7 1)):=fun Y y e ev kY hy he g6 g7 hp=>by
  have h1:=kY.at b1 id;have h2:(Y.set (S.length+1) (.arr [y] 7 1))[S.length+1]?=some (.arr [y] 7 1):=bJ (aM h1);exact aS (vs:=[y,.int .i64 e]) (by simp[dm,g6,g7,ae,h2,hp]) ⟨by rw[hy,he];rfl,(kS.trans kY).set _ (.inr oM)⟩
 simp only[eD]at hS1;simp[Qb,aC];rw[<-hS1];refine aG (ZO b b' l xs hl hxl ho S1) ?_;by_cases hp:fX l xs=0
 case neg=>
  rw[ai hp]at he;rw[he,aj hp]at hv;simp[hp,bz,bj,aA,b1,eD,aE];refine fin _ eD _ _ (Kp.refl _ _) hv he ?_ ?_ rfl<;>simp
 rw[aj (by rw[hp];simp)]at he;obtain⟨S2,hS2⟩:∃S2:St,S2=S1++[dK (fJ l xs) b b' (.sl true []) (.sl true []) (.sl true []) eT]:=⟨_,rfl⟩;have w2:S2[S1.length]?=some (dK (fJ l xs) b b' (.sl true []) (.sl true []) (.sl true []) eT):=by rw[hS2];simp
 have k12:Kp (fun _=>False) S1 S2:=by rw[hS2];exact(Kp.refl _ _).push _
 have l2:S2.length=S1.length+1:=by rw[hS2];simp
 have c0:=k12.at b0 id;have d2:ae S2 (.ptr S.length 0 0 1) (some 7)=some x.v:=by simp[ae,c0]
 have k1:Rk (fJ l xs) b b' S1.length (.sl true []) [] eT (fun _=>False) (fun _=>False) S2:=
  ⟨⟨_,_,w2,.inl ⟨rfl,rfl⟩,.inl ⟨rfl,rfl⟩,fun l a b c hh=>by cases hh⟩,.inl ⟨true,rfl⟩,fun l hl=>hl.elim id id |>.elim,id,id,fun l hl=>hl.elim,by omega⟩
 have ro:pL (fJ l xs):=⟨Nat.le_of_eq (L0 hp).1,by show xs.length<=_;omega⟩;have p:=HG (fJ l xs) ro b b' S1.length (.sl true []) 4000 x hsz bL [] eT _ _ S2 true [] k1 (fun _ h=>by cases h) (by show 0<=_;omega) (by show 0+_<=_;omega);simp only[ag.flat,jj]at p;simp only[dK,eT,fJ]at hS2;simp[hp,bz,bj,aC,aE];rw[<-hS2];simp[d2];refine aU p ?_;rintro r W ⟨rfl,F1,D1,k2,s2⟩
 have kW:Kp (fun _=>False) S1 W:=⟨fL k12.len s2.k.len,fun k hk hn=>by
  rw[s2.k.get k oM (by rintro(hh|hh);omega;exact hh)];exact k12.get k hk hn⟩
 obtain⟨vb,vf,w3,_,_,_⟩:=k2.wx;have hb:W[S1.length]?=some (dK (fJ l xs) b b' (.sl true []) vb vf (x.rs (fJ l xs) [] eT)):=w3;have hf:=qjm v hp;obtain⟨W2,hW2⟩:∃W2,W2=W++[.arr [(x.rw (fJ l xs) []).v] 7 1]:=⟨_,rfl⟩;have mr:Kp (fun _=>False) S1 W2:=by rw[hW2];exact kW.push _
 have g2:W2[S1.length]?=some (dK (fJ l xs) b b' (.sl true []) vb vf (x.rs (fJ l xs) [] eT)):=by rw[hW2,b8 (aM hb)];exact hb
 have dg:ae W2 (.ptr S1.length 0 5 1) none=some (.bool (qm x (l.zip xs))):=by unfold dK at g2;simp[ae,g2,hf]
 have c1:=mr.at b1 id;simp[aC,ZS,cF];rw[<-hW2];simp[dg]
 cases hs:qm x (l.zip xs) with
 |true=>
  rw[ai hs]at he;rw[he,aj sM]at hv;simp[bz,bj,aA,c1,eD,aE];refine fin _ eD _ _ mr hv he ?_ ?_ rfl<;>simp
 |false=>
  rw[aj (by rw[hs];simp)]at he;have ho2:=qjn v hp hs;obtain⟨o,hO⟩:∃o,o=nW x (l.zip xs):=⟨_,rfl⟩;rw[<-hO]at he hv ho2;have oo:o.ok:=by rw[hO];exact Ex.pq (zM fun e he=>ho _ (qD he).2) [] false x hx
  have o2:W2[W.length]?=some (.arr [o.v] 7 1):=by rw[hW2,ho2];simp
  have tP:ae W2 (.ptr W.length 0 0 1) (some 7)=some o.v:=by simp[ae,o2]
  have hpo:V.part o.v 0 (some 7)=some o.v:=by simp[V.part,Ex.eP,V.isAgg,Ex.dJ]
  simp[tP];refine aG (M8 o oo W2) ?_;by_cases e0:(Pa.ex o).err ar=0
  .rw[e0]at he;rw[he,ai rfl]at hv;have hu:V.upd eD 0 7 o.v=some o.v:=by unfold eD;rw[aE];simp
   unfold eD at hu c1;simp[e0,tP,aA,c1,hu];refine fin _ o.v _ _ mr hv he ?_ ?_ hpo<;>simp
  .rw[he,aj e0]at hv;simp[e0,bz,bj,aA,c1,eD,aE];refine fin _ eD _ _ mr hv he ?_ ?_ rfl<;>simp
def Sm.qiS(s:Sm)(va:(Pa.st s).valid ar=true)(z:Bz):z∈s.mV↔z∈s.frees:=by
 rw[<-s.qiT va,(Gv (z:=z) List.Pairwise.nil).2];simp
def Sm.qbp(s:Sm)(va:(Pa.st s).valid ar=true)(taken:List Bz):fM taken s.mV [] s.bounds=s.fE taken:=by
 unfold Sm.fE;exact EX (fun x=>by rw[qa];simp) (fun x=>s.qiS va x) _ _
def Sm.qbi(s:Sm)(va:(Pa.st s).valid ar=true)(taken:List Bz):s.ti ⟨s.fE taken,[],[]⟩=s.ap taken:=by
 refine Sm.qmA (N:=(s.fE taken).length) ⟨fun k hk=>?_,rfl⟩ s (by rw[s.IK];exact cq _) va;show(s.fE taken)[k]?=_;unfold lf;rw[bI hk];rfl
def Gs.elems{w:Nat}{F:Np}{xs:List Bz}{v:V}{S:St}(h:Gs w F xs v S):Go.Proofs.YtbifpocccfkhhaaGreatDoor.elems S v=some (xs.map .str):=by
 rcases h with ⟨rfl,rfl⟩|⟨l,wr,h1,h2,rfl,h4,h5⟩
 .rfl
 .simp only[Go.Proofs.YtbifpocccfkhhaaGreatDoor.elems,h4];rw[ai ⟨h5,by omega⟩,tD,iP (by rw[bu];exact cq _)]
def Gr.elems{sz n0:Nat}{xs:List V}{v:V}{S:St}(h:Gr sz n0 xs v S):Go.Proofs.YtbifpocccfkhhaaGreatDoor.elems S v=some xs:=by
 rcases h with ⟨rfl,rfl⟩|⟨l,wr,h1,rfl,h4,h5⟩
 .rfl
 .simp only[Go.Proofs.YtbifpocccfkhhaaGreatDoor.elems,h4];rw[ai ⟨h5,by omega⟩,tD,eR]
def qlt(s:Sm)(va:(Pa.st s).valid ar=true)(hsz:(Pa.st s).size<150)(hn:Sm.aX [s]<150)(tv:V)(taken:List Bz)(ht:taken.length<=500)(S:St)(UD:∀Y:St,(∀k,k<S.length->Y[k]?=S[k]?)->Rd tv taken Y/\Go.Proofs.YtbifpocccfkhhaaGreatDoor.elems Y tv=some (taken.map .str)):
  au prog 47 [s.v,tv] S (fun r U=>r=(s.ap taken).v/\Kp (fun _=>False) S U):=by
 refine au.ib P8 ?_;obtain⟨S1,hS1⟩:∃S1:St,S1=S++[.arr [s.v] 8 1,.arr [bX] 8 1,tj (.sl true [])]:=⟨_,rfl⟩;have b0:S1[S.length]?=some (.arr [s.v] 8 1):=by rw[hS1];simp
 have b1:S1[S.length+1]?=some (.arr [bX] 8 1):=by rw[hS1,bK oM];simp
 have b2:S1[S.length+2]?=some (tj (.sl true [])):=by rw[hS1,bK oM];simp
 have l1:S1.length=S.length+3:=by rw[hS1];simp
 have kS:Kp (fun _=>False) S S1:=by rw[hS1];exact(Kp.refl _ _).push _
 have d0:ae S1 (.ptr S.length 0 0 1) (some 8)=some s.v:=by simp[ae,b0]
 have k1:Rk r0 true true (S.length+2) (.sl true []) [] eT (fun _=>False) (fun _=>False) S1:=Rk.start b2 (.inl ⟨rfl,rfl⟩) (fun _ h=>h.elim) id;simp[P8,aC,bz,bj];rw[<-hS1];simp[d0];refine aU (Na r0 Yl true true (S.length+2) _ s oM eT _ _ S1 k1 oM (by show 0+_<=_;omega)) ?_;rintro r U ⟨rfl,F1,D1,k2,s2⟩;have lG:Kp (fun l=>l=S.length+2) S1 U:=s2.k.mono fun l _ hh=>hh.elim id fun h=>h.elim
 have c0:=lG.at b0 oM;have c1:=lG.at b1 oM;have lU:=lG.len;have kU:Kp (fun _=>False) S U:=⟨by omega,fun l hl hn=>by rw[lG.get l oM oM];exact kS.get l hl hn⟩;obtain⟨vb,vf,w1,w2,w3,w4⟩:=k2.wx;have hN:=s.tN;have hfr:(s.rs r0 [ah s.labels 0] (ah s.labels 0).length eT).free=s.mV:=rfl;have hfl:=Sm.uM r0 s [ah s.labels 0] (ah s.labels 0).length eT;have h0:eT.free.length=0:=rfl;rw[hfr]at w3 hfl;have w2:Gs (S.length+2) F1 s.bounds vb U:=w2;have K9:ae U (.ptr (S.length+2) 0 0 1) none=some vb:=by unfold dK at w1;simp[ae,w1]
 have La:∀X:St,X[S.length+2]?=U[S.length+2]?->ae X (.ptr (S.length+2) 0 1 1) none=some vf:=fun X hX=>by
  unfold dK at w1;rw[w1]at hX;simp[ae,hX]
 obtain⟨fv,U1,a1,g1,m1,m2,_⟩:=(Gr.nil 1 U.length U).rM (bytes:=16) w2.elems (qL _) (by simp;omega) bL;rw[eK]at g1;have m2:∀(l:Nat) (o:Ob),U[l]?=some o->U1[l]?=some o:=fun l o ho=>m2 l o ho fun n=>by simp
 have Ge:=g1.rd.flat;obtain⟨Q,hQ⟩:∃Q,Q=U1.length:=⟨_,rfl⟩
 have hbw:bj (.agg [.sl true [],.sl true [],.sl true [],.sl true [],.sl true [],.bool false,.bool false]) [(2,1,fv)]=some (.agg [.sl true [],.sl true [],fv,.sl true [],.sl true [],.bool false,.bool false]):=by
  simp[bj,aE,Ge]
 have hfn:∀x n,fv=.arr x 0 n n->x<Q:=fun x n hx=>by
  rcases g1 with ⟨_,rfl⟩|⟨l,wr,h1,rfl,h3,_⟩
  .cases hx
  .cases hx;rw[hQ];exact aM h3
 have f0:fits 1 ([]:List V)=true:=rfl;have hbl:s.bounds.length<150:=by omega
 simp[aC,bz,cF,K9,a1,hbw,f0,Ge];rw[<-hQ];obtain⟨dn,hdn⟩:∃dn:Nat->List Bz,dn=fun i=>me taken s.mV [] s.bounds i:=⟨_,rfl⟩
 have FD:dn 0=[]:=by rw[hdn];simp[me]
 have yE:∀i,i<=s.bounds.length->(dn i).length=i:=fun i hi=>by rw[hdn];simpa using ID taken s.mV s.bounds [] i hi
 have dns:∀i (hi:i<s.bounds.length),dn (i+1)=dn i++[iC taken s.mV (dn i) s.bounds[i] (s.bounds.drop (i+1))]:=fun i hi=>by rw[hdn];exact IE taken s.mV s.bounds [] i hi
 obtain⟨Inv,hInv⟩:∃Inv:Nat->St->Prop,∀i X,Inv i X↔(X[Q]?=some (tj fv)/\Gr 1 U.length ((dn i++s.bounds.drop i).map .str) fv X/\∀l,l<U.length->X[l]?=U[l]?):=⟨_,fun _ _=>Iff.rfl⟩;have hcl:∀i,i<=s.bounds.length->(dn i++s.bounds.drop i).length=s.bounds.length:=fun i hi=>by rw[cJ,yE i hi,List.length_drop];omega
 refine du (fun e X=>Inv s.bounds.length X/\e.get 2=some (.ptr S.length 0 0 1)/\e.get 4=some (.ptr (S.length+1) 0 0 1)/\e.get 6=some (.ptr Q 0 0 1)) ?_ ?_
 ·refine bN (fun j e X=>∃i:Nat,j=s.bounds.length - i∧i≤s.bounds.length∧Inv i X∧
   e=[(7,.int .i64 i),(6,.ptr Q 0 0 1),(5,.ptr (S.length+2) 0 0 1),(4,.ptr (S.length+1) 0 0 1),(2,.ptr S.length 0 0 1),(1,tv)]) s.bounds.length _ ?_ ⟨0,by simp,by omega,(hInv _ _).2 ⟨?_,?_,?_⟩,rfl⟩ ?_
  .exact aN
  .rw[hQ];simp
  .rw[FD,tD,eK];exact g1.keep fun l _ hl=>by rw[b8 hl]
  .intro l hl;rw[b8 oM,bI hl];exact m2 l _ (bI hl)
  rintro j e X ⟨i,rfl,hi,hI,rfl⟩;obtain⟨hq,hg,hk⟩:=(hInv _ _).1 hI;have hlen:=hg.rd.1;rw[hcl i hi]at hlen;have wX:∀{Y:St},Y[Q]?=some (tj fv)->ae Y (.ptr Q 0 2 1) none=some fv:=fun h=>by unfold tj at h;simp[ae,h]
  by_cases hlt:i<s.bounds.length
  .have hdr:s.bounds.drop i=s.bounds[i]::s.bounds.drop (i+1):=rF hlt;have hap:iC taken s.mV (dn i) s.bounds[i] (s.bounds.drop (i+1))=if eN s.bounds[i] taken=true then pW s.bounds[i] (s.mV++(dn i++s.bounds[i]::s.bounds.drop (i+1))++taken) else s.bounds[i]:=rfl
   have hds:=dns i hlt;have hdl:=yE i hi;have hxs:s.bounds[i].size<=16:=LG (s.Bc va _ (cI hlt));obtain⟨cur,hcur⟩:∃cur,cur=dn i++s.bounds.drop i:=⟨_,rfl⟩;have hcn:=hcl i hi;rw[<-hcur]at hg hcn;have hci:cur[i]?=some s.bounds[i]:=by rw[hcur,hdr,bK oM,hdl];simp
   rw[<-hdr,<-hcur]at hap
   have hset:cur.set i (iC taken s.mV (dn i) s.bounds[i] (s.bounds.drop (i+1)))=dn (i+1)++s.bounds.drop (i+1):=by
    rw[hds,hcur,List.set_append_right _ _ oM,hdl,cO,hdr,Nat.sub_self];rfl
   obtain⟨x,hxx⟩:∃x,x=s.bounds[i]:=⟨_,rfl⟩;rw[<-hxx]at hap hci hxs hset;obtain⟨q,q1,q2⟩:=hg.rd.2 i oM
   have hcx:cur[i]'oM=x:=by
    have:=(aT.1 hci).2;exact this
   rw[hcx]at q2;simp[wX hq,cF,↓iU,hlen,hlt,q1,q2];have kX:∀k,k<S.length->X[k]?=S[k]?:=fun k hk'=>by rw[hk k (by have:=kU.len;omega)];exact kU.get k hk' id
   refine aG (HE tv taken x X oM (UD X kX).1) ?_
   cases hin:eN x taken with
   |false=>
    rw[hin,aj sM]at hap;rw[hap,YR hci]at hset;simp[bP i];refine⟨_,?_,_,?_,i+1,rfl,by omega,(hInv _ _).2 ⟨hq,by rw[<-hset];exact hg,hk⟩,rfl⟩
    .omega
    .exact aN
   |true=>
    rw[hin,ai rfl]at hap;have lQ:=aM hq;have lw:=aM w1;have lfX:=La X (hk _ lw);have w3X:Gs (S.length+2) F1 s.mV vf X:=w3.keep fun l o hl ho=>by rw[hk l (k2.lt l (.inl hl))];exact ho
    obtain⟨v1,X1,r1,j1,n1,o1,_⟩:=(Gr.nil 1 X.length X).rM (bytes:=16) w3X.elems (qL _) (by simp;omega) bL;have o1:∀(l:Nat) (o:Ob),X[l]?=some o->X1[l]?=some o:=fun l o ho=>o1 l o ho fun n=>by simp
    have kp:∀{Y:St},(∀(l:Nat) (o:Ob),X[l]?=some o->Y[l]?=some o)->Gr 1 U.length (cur.map .str) fv Y:=fun h=>hg.keep fun l _ hl=>by
     rw[bI hl];exact h l _ (bI hl)
    obtain⟨v2,X2,r2,j2,n2,o2,_⟩:=j1.rM (bytes:=16) (kp o1).elems (qL _) (by simp;omega) n1;have o2:∀(l:Nat) (o:Ob),X[l]?=some o->X2[l]?=some o:=fun l o ho=>o2 l o (o1 l o ho) fun n=>j1.ne (aM ho) n
    obtain ⟨v3,X3,r3,j3,n3,o3,_⟩:=j2.rM (bytes:=16) (UD X2 fun k hk'=>by
     have hkX:k<X.length:=by have:=aM hq;have:=kU.len;omega
     have h1:=o2 k _ (bI hkX);rw[h1,<-bI hkX];exact kX k hk').2 (qL _) (by simp;omega) oM
    have o3:∀(l:Nat) (o:Ob),X[l]?=some o->X3[l]?=some o:=fun l o ho=>o3 l o (o2 l o ho) fun n=>j2.ne (aM ho) n
    obtain⟨all,hall⟩:∃all,all=s.mV++cur++taken:=⟨_,rfl⟩;have j3:Gr 1 X.length (all.map .str) v3 X3:=by rw[hall,cy,cy];simpa using j3
    rw[<-hall]at hap;have hal:all.length<=899:=by rw[hall];simp;omega
    have hq1:=o1 _ _ hq;have hq3:=o3 _ _ hq;simp[f0,cF,lfX,r1,wX hq1,r2,r3];simp[cU,dx,dG,wX hq,wX hq1]
    obtain⟨a,wr,ha1,hfv,FX,J3⟩:∃a wr,U.length<=a/\fv=.arr a 0 cur.length cur.length/\X3[a]?=some (.arr (cur.map .str) 1 wr)/\wr<=cur.length:=by
     rcases kp o3 with ⟨h1,_⟩|⟨a,wr,h1,h2,h3,h4⟩
     .have:cur.length=0:=by rw[<-bu (f:=V.str),h1];rfl
      omega
     .rw[bu]at h2 h4;exact⟨a,wr,h1,h2,h3,h4⟩
    have hiL:i<cur.length:=by omega
    have z1:eJ X3 1 fv i=some (.ptr a i 0 cur.length):=by
     rw[hfv];simp only[eJ,FX];rw[ai ⟨J3,trivial,by omega,by omega⟩];simp
    have z2:ae X3 (.ptr a i 0 cur.length) none=some (.str x):=by
     simp only[ae,FX];rw[ai ⟨J3,hiL⟩];simp[hci,V.part,V.cells]
    have hcg:cur[i]?=some x:=hci
    have z3:∀t,aA X3 (.ptr a i 0 cur.length) 1 (.str t)=some (X3.set a (.arr ((cur.set i t).map .str) 1 cur.length)):=fun t=>by
     simp[aA,FX,J3,hiL,hcg,ND,V.size,V.cells,V.flat,List.map_set]
    simp[cF,wX hq3,z1,z2];refine qw (qls v3 x all X3 j3.rd hxs hal) ⟨_,X3,⟨_,rfl,(gg.exists x all hal).choose_spec⟩,rfl⟩ ?_;rintro r X4 ⟨⟨t,rfl,hfr⟩,rfl⟩;rw[BH hfr]at hap;rw[hap]at hset;simp[z1,z3];simp[cU,dx,dG,wX hq3];have haQ:a<Q:=hfn a _ hfv;simp[bP i];refine⟨_,?_,_,?_,i+1,rfl,by omega,(hInv _ _).2 ⟨?_,.inr ⟨a,cur.length,ha1,?_,?_,?_⟩,fun l hl=>?_⟩,rfl⟩
    .omega
    .exact aN
    .rw[bC oM];exact hq3
    .rw[bu,<-hset,AG];exact hfv
    .rw[bJ (aM FX),<-hset,List.map_set]
    .rw[bu,<-hset,AG];exact cq _
    .rw[bC oM];have h1:=hk l hl;rw[bI hl]at h1 |-;exact o3 _ _ h1
  .have:i=s.bounds.length:=by omega
   subst this;simp[wX hq,cF,↓iU,hlen];exact hI
 rintro e X ⟨hI,g2,g4,g6⟩;obtain⟨hq,hg,hk⟩:=(hInv _ _).1 hI;have hfin:dn s.bounds.length=s.fE taken:=by rw[hdn,<-s.qbp va taken];exact IC taken s.mV s.bounds []
 rw[List.drop_length,kR,hfin]at hg;have lQ:=aM hq;have lw:=aM w1;have z0:X[S.length]?=some (.arr [s.v] 8 1):=by rw[hk _ oM];exact c0
 have z1:X[S.length+1]?=some (.arr [bX] 8 1):=by rw[hk _ oM];exact c1
 have CC:ae X (.ptr S.length 0 0 1) (some 8)=some s.v:=by simp[ae,z0]
 have hgs:Gs Q (fun l=>∃n,fv=.arr l 0 n n) (s.fE taken) fv X:=by
  rcases hg with ⟨h1,h2⟩|⟨l,wr,h1,h2,h3,h4⟩
  .exact .inl ⟨by simpa using h1,h2⟩
  .rw[bu]at h2 h4;exact .inr ⟨l,wr,⟨_,h2⟩,by have:=hfn l _ h2;omega,h2,h3,h4⟩
 have k3:=Rk.start (D:=fun l=>∃n,fv=.arr l 0 n n) hq hgs (fun l ⟨n,hl⟩=>by have:=hfn l n hl;omega) fun⟨n,hl⟩=>by have:=hfn Q n hl;omega
 simp[g2,g4,g6,CC];refine aU (Na ⟨s.fE taken,[],[]⟩ ⟨cq _,eL _⟩ true true Q fv s oM eT _ _ X k3 oM (by show 0+_<=_;omega)) ?_;rintro r Y ⟨hr,F2,D2,k4,s4⟩;rw[s.qbi va taken]at hr
 have kY:∀l,l<U.length->Y[l]?=U[l]?:=fun l hl=>by
  rw[s4.k.get l oM (by rintro(hh|hh);omega;exact hh)];exact hk l hl
 have z2:Y[S.length+1]?=some (.arr [bX] 8 1):=by rw[kY _ oM];exact c1
 have lY:=s4.k.len;have BV:r.size=8/\r.cells.all V.flat=true/\V.part r 0 (some 8)=some r:=by rw[hr];exact⟨Sm.eP _,by simp,sx _⟩
 have hst:aA Y (.ptr (S.length+1) 0 0 1) 8 r=some (Y.set (S.length+1) (.arr [r] 8 1)):=by simp[aA,z2,aE,BV]
 simp[hst,g4];have hz:(Y.set (S.length+1) (.arr [r] 8 1))[S.length+1]?=some (.arr [r] 8 1):=bJ (aM z2);refine aS (vs:=[r]) (by simp[dm,g4,ae,hz,BV]) ⟨hr,Kp.set ⟨by have:=kU.len;omega,fun l hl hn=>?_⟩ _ (.inr oM)⟩;rw[kY l oM];exact kU.get l hl hn
def qef{xs:List Ex}{i:Nat}(h:i<xs.length):(xs.take (i+1)).flatMap Ex.names=(xs.take i).flatMap Ex.names++xs[i].names:=by
 rw[cY,bI h,gZ,AB];simp
def LH:∀xs:List Ex,(xs.flatMap Ex.names).length<=aY (xs.map Pa.ex)
 |[]=>eL _
 |x::xs=>by
  have h1:=x.zp;have h2:=LH xs;rw[iO,cJ,b9,fq];omega
def qj3(xs:List Ex)(i:Nat):aY ((xs.take i).map Pa.ex)<=aY (xs.map Pa.ex):=by
 have h:aY (xs.map Pa.ex)=aY ((xs.take i).map Pa.ex)+aY ((xs.drop i).map Pa.ex):=by rw[<-pf,<-cy,lA]
 omega
def YX{xs:List Ex}{x:Ex}(h:x∈xs):(Pa.ex x).size<=aY (xs.map Pa.ex):=by
 induction xs with
 |nil=>cases h
 |cons y l ih=>
  rw[b9,fq];rcases cX.1 h with rfl| h
  .omega
  .have:=ih h;omega
def qlI(b:Bool)(xs:List Ex)(hl:xs.length<=1000)(hz:aY (xs.map Pa.ex)<=4000)(hv:∀x,x∈xs->(Pa.ex x).valid ar=true)(S:St):
    au prog 85 [.sl b (xs.map Ex.v)] S (fun r U=>Gr 1 S.length ((xs.flatMap Ex.names).map .str) r U/\Kp (fun _=>False) S U):=by
  refine au.ib Qv ?_;simp[Qv];refine du (fun e U=>∃ov,e.get 3=some ov/\Gr 1 S.length ((xs.flatMap Ex.names).map .str) ov U/\Kp (fun _=>False) S U) ?_ ?_
  · refine bN (fun j e U=>∃(i:Nat) (ov:V),j=xs.length-i/\i<=xs.length/\(Gr 1 S.length (((xs.take i).flatMap Ex.names).map .str) ov U/\Kp (fun _=>False) S U)/\e=[(4,.int .i64 i),(3,ov),(0,.sl b (xs.map Ex.v))]) xs.length _ ?_ ⟨0,.sl true [],by simp,by omega,⟨Gr.nil _ _ _,Kp.refl _ _⟩,rfl⟩ ?_
    · exact aN
    rintro j e U ⟨i,ov,rfl,hi,⟨hg,hk⟩,rfl⟩;by_cases h:i<xs.length
    case neg=>
      have:i=xs.length:=by omega
      subst this;rw[eR]at hg;simp;exact⟨hg,hk⟩
    have hm:=cI h;have h1:=YX hm;simp[h,mP];refine aU (qlq xs[i] oM (hv _ hm) U) ?_;rintro r U2 ⟨rfl,k2⟩;have hg2:=hg.keep (S':=U2) fun l _ h2=>k2.get l h2 id
    have hk2:=hk.trans k2;have hfl:=LH (xs.take i);have hst:=qj3 xs i;have hnl:=xs[i].zp;obtain⟨v',U',a1,a2,a3,a4,_⟩:=hg2.rM (bytes:=16) (x:=.sl false (xs[i].names.map .str)) (ys:=xs[i].names.map .str) rfl (qL _) (by rw[bu,bu];omega) hk2.len;rw[<-cy,<-qef h]at a2
    have hk3:Kp (fun _=>False) S U':=⟨by have:=hk2.len;omega,fun l hl hn=>by
      have cA:l<U2.length:=by have:=hk2.len;omega
      have:=a4 l _ (bI cA) (hg2.ne hl);rw[this,<-bI cA];exact hk2.get l hl hn⟩
    simp[a1,cU,dx,dG];rw[bP i];refine⟨_,?_,_,?_,i+1,rfl,by omega,v',⟨a2,hk3⟩,rfl⟩
    · omega
    · exact aN
  · rintro e U ⟨ov,g3,hg,hk⟩;simp[g3];exact aS (vs:=[ov]) rfl ⟨hg,hk⟩
open Classical in
def qlM(a b:Ex)(ha:a.ok)(hb:b.ok)(fa:(Pa.ex a).fits)(fb:(Pa.ex b).fits):∀S,Fn prog 99 [a.v,b.v] S (.bool (decide (a=b))):=by
 refine Pu.ib QF ?_;simp[QF,aC,ae];refine iu (DJ a _) ?_;simp[ae];refine iu (DJ b _) ?_;simp;refine iu (Zk (.ex a) (.ex b) ha hb fa fb _) ?_;simp[cU,dx,dG,ae];exact aD (r:=rfl)
open Classical in
def qlx(a b:Ex)(ha:a.ok)(hb:b.ok)(fa:(Pa.ex a).fits)(fb:(Pa.ex b).fits):∀S,Fn prog 51 [a.v,b.v] S (.bool (decide (a=b))):=by
 refine Pu.ib Qc ?_;simp[Qc,aC,ae];refine aG (qlM a b ha hb fa fb _) ?_;simp;exact aD (r:=rfl)
def qcA(n:Nat):∃l d,d<10/\fk n=l++[UInt8.ofNat (48+d)]:=by
 by_cases h:n<10
 .exact⟨[],n,h,rO h⟩
 .exact⟨fk (n/10),n%10,by omega,rP h⟩
def qcC{d:Nat}(h:d<10):(UInt8.ofNat (48+d)).toNat=48+d:=by
 have:(48+d)%256=48+d:=AO oM;simp[this]
def UP{d:Nat}(h:d<10):nK (UInt8.ofNat (48+d)).toNat=true:=by
 rw[qcC h];unfold nK;simp;omega
def UI{d:Nat}(h:d<10):mQ (UInt8.ofNat (48+d))=true:=by unfold mQ;rw[UP h,Bool.or_true]
def SN:∀(m n:Nat),n<=m->∀b,b∈fk n->mQ b=true
 |m,n,hm,b,hb=>by
  by_cases h:n<10
  .rw[rO h]at hb;simp only[mK]at hb;rw[hb];exact UI h
  .rw[rP h]at hb;rcases cC.1 hb with hb|hb
   .cases m with
    |zero=>omega
    |succ m=>exact SN m (n/10) oM b hb
   .simp only[mK]at hb;rw[hb];exact UI oM
def Jv(b:Bz):Bool:=match b.data.toList.reverse with
 |c::_=>nK c.toNat
 |[]=>false
theorem qmw:m9.all (fun w=>!Jv w)=true:=by kernel_rfl
def qbL(x:Bz)(n:Nat):Jv (fF x n)=true:=by
 obtain⟨l,d,hd,hl⟩:=qcA n;unfold Jv fF;simp only[hl,<-cO,List.reverse_append,EI,List.reverse_nil,eK,cP];exact UP hd
def qgS{x:Bz}(hx:ar x=true){n:Nat}(hn:n<10000):ar (fF x n)=true:=by
 have hd:=Js hn
 have hw:eN (fF x n) m9=false:=by
  rw[se];intro hm;have:=d6.1 qmw _ hm;rw[qbL]at this;cases this
 unfold ar at hx |-;simp only[bZ,vx,cR]at hx |-;obtain⟨⟨⟨⟨h1,h2⟩,h3⟩,_⟩,h5⟩:=hx;have hlen:x.data.toList.length=x.size:=pB;refine⟨⟨⟨⟨?_,?_⟩,?_⟩,hw⟩,?_⟩
 .unfold fF;simp only[ByteArray.size,AL,cJ];omega
 .unfold fF;simp only[ByteArray.size,AL,cJ,km];simp only[ByteArray.size]at hlen h2 |-;omega
 .unfold fF;show FZ (List.take _ _++_)=true;obtain⟨m,hm⟩:∃m,min x.size (16-(fk n).length)=m+1:=⟨min x.size (16-(fk n).length)-1,by omega⟩;rw[hm]
  cases hc:x.data.toList with
  |nil=>rw[hc]at hlen;simp at hlen;omega
  |cons c r=>
   rw[hc]at h3;exact h3
 .unfold fF rK at *;rw[d6]at h5 |-;intro b hb;rcases cC.1 hb with hb|hb
  .exact h5 b (yj hb)
  .exact SN n n bL b hb
def gg.nm{s:Bz}{taken:List Bz}{t:Bz}(h:gg s taken t)(hs:ar s=true)(ht:taken.length<=899):ar t=true:=by
 by_cases hm:s∈taken
 .obtain⟨n,h1,h2,h3,h4⟩:=BA s taken ht;rw[h.unique (.inr ⟨hm,n,h1,rfl,h3,h4⟩)];exact qgS hs oM
 .rw[h.unique (.inl ⟨hm,rfl⟩)];exact hs
def qba{tk fr done rest:List Bz}{x:Bz}(hx:ar x=true)(hl:(fr++(done++x::rest)++tk).length<=899):ar (iC tk fr done x rest)=true:=by
 unfold iC;split
 .obtain⟨t,ht⟩:=gg.exists x _ hl;rw[BH ht];exact ht.nm hx hl
 .exact hx
def Rq(tk fr:List Bz):∀(rest done:List Bz),(∀x,x∈done->ar x=true)->(∀x,x∈rest->ar x=true)->fr.length+done.length+rest.length+tk.length<=899->∀x,x∈fM tk fr done rest->ar x=true
 |[],done,h,_,_=>by rw[fM];exact h
 |y::rest,done,h,g,hl=>by
  rw[fM];rw[eE]at hl;refine Rq tk fr rest _ (fun x hx=>?_) (fun x hx=>g x (mc _ hx)) (by simp;omega);rcases cC.1 hx with hx|hx
  .exact h x hx
  .simp at hx;subst hx;exact qba (g y sM) (by simp;omega)
section
variable {s:Sm} {taken:List Bz} (va:(Pa.st s).valid ar=true) (hl:s.frees.length+Sm.aX [s]+taken.length<=899)
include va hl
theorem Sm.qbo:∀x,x∈s.fE taken->ar x=true:=by
 refine Rq _ _ _ _ (fun x hx=>by simp at hx) (fun x hx=>s.Bc va x hx) ?_;have h1:=zb (l:=taken) (ks:=[]);have h3:=s.tN;simp only[kj]at h1 |-;omega
theorem Sm.Rx:(Pa.st (s.ap taken)).valid ar=true:=by
 have hi:=s.IL (taken:=taken) hl;refine Sm.td (Sm.EY va hl) (fun k hk=>?_) s _ _ (Sm.qmD va hl) (Sm.Jd va hl) va
 cases hb:s.bounds[k]? with
 |none=>
  unfold lf at hk;rw[hb]at hk;exact absurd rfl (VI hk)
 |some x=>
  have h1:=(aT.1 hb).1;have h2:k<(s.fE taken).length:=by rw[hi.len];exact h1
  rw[CN (bI h2)];exact Sm.qbo va hl _ (cI h2)
end
section
variable {s:Sm} {l:List Bz} {es:List Ae} (va:(Pa.st s).valid ar=true) (he:rA es) (hl:s.frees.length+Sm.aX [s]+(jJ l es).length<=899)
include va he hl
omit he in
theorem qnM:Sm.aX [jz s l es]=Sm.aX [s]:=by
 have ha:(Pa.st (eX s l es)).valid ar=true:=Sm.Rx va hl
 have h1:(jz s l es).nb=s.nb:=by
  unfold jz Sm.mI;rw[Sm.qg3 DD _ _ _ ha];exact Sm.qbh va hl
 have h2:(ah (jz s l es).labels 0).length=(ah s.labels 0).length:=by
  unfold jz Sm.mI;rw[Sm.NT DD,eX,Sm.Ru va hl,qgL]
 simp only[Sm.aX,h1,h2]
end
def Sm.TM(s:Sm):s.frees.length<=(Pa.st s).size:=by
 unfold Sm.frees;rw[Zd];have h1:=zb (l:=dp (s.kP bg nC)) (ks:=[]);have h2:=s.qem;simp only[kj]at h1;omega
end Go.Proofs.YtbifpocccfkhhaaGreatDoor

namespace Go.Proofs.YtbifpocccfkhhaaGreatDoor
open Go
def Ex.Vx{x:Ex}{z:Bz}:z∈x.names↔z∈x.eo:=by
 unfold Ex.names;rw[MV,qa];simp[Ex.cf]
open Go.Proofs.Tryz
def Gr.inh(n0:Nat)(xs:List V)(S:St)(hn:n0<=S.length):∃v U,Gr 1 n0 xs v U/\Kp (fun _=>False) S U:=by
 by_cases h:xs=[]
 .subst h;exact⟨.sl true [],S,Gr.nil _ _ _,Kp.refl _ _⟩
 .exact⟨.arr S.length 0 xs.length xs.length,S++[.arr xs 1 xs.length],.inr ⟨S.length,xs.length,hn,rfl,by simp,cq _⟩,(Kp.refl _ _).push _⟩
def N3:∀(l:List Bz) (xs:List Ex),((l.zip xs).flatMap fun e=>e.2.eo).length<=aY (xs.map Pa.ex)
 |[],xs=>by simp
 |y::l,[]=>by simp
 |y::l,x::xs=>by
  have h1:=Ex.LP x;have h2:=N3 l xs;rw[EJ,iO,cJ,b9,fq];simp only;omega
def ql7{l:List Bz}{xs:List Ex}(hlen:l.length=xs.length)(z:Bz):z∈xs.flatMap Ex.names++l↔z∈jJ l (l.zip xs):=by
 unfold jJ;rw[cC,cC,or_comm];refine or_congr_right ?_;rw[tI,tI];constructor
 .rintro⟨x,hx,hz⟩;obtain⟨i,hi,rfl⟩:=pH hx;refine⟨(l[i]'oM,xs[i]),?_,Ex.Vx.1 hz⟩;rw[List.mem_iff_getElem];exact⟨i,by rw[List.length_zip];omega,by simp⟩
 .rintro⟨e,he,hz⟩;exact⟨e.2,(qD (a:=e.1) (b:=e.2) he).2,Ex.Vx.2 hz⟩
def qbj{s:Sm}{t t':List Bz}(h:∀z,z∈t↔z∈t'):s.ap t=s.ap t':=by
 unfold Sm.ap Sm.fE;rw[EX (sR:=t'.foldl dQ []) (fun x=>by rw[qa,qa,h]) (fun _=>Iff.rfl)]
section
variable {s:Sm} {l:List Bz} {xs:List Ex} (ha:(Pa.st (eX s l (l.zip xs))).valid ar=true) (hp:fX l xs=0)
include ha hp
theorem ql5:((eX s l (l.zip xs)).rs (fJ l xs) [ah (eX s l (l.zip xs)).labels 0] (ah (eX s l (l.zip xs)).labels 0).length eT).bad=nZ s l (l.zip xs):=by
 have he:=rA.all hp;have h1:=Sm.sD (g:=mF) he.lk (Hq l xs) (eX s l (l.zip xs)) [ah (eX s l (l.zip xs)).labels 0] (ah (eX s l (l.zip xs)).labels 0).length eT ha;have h2:=Sm.Tz (lk:=cw (l.zip xs)) (g:=mF) he.lk (eX s l (l.zip xs)) ha;rw[h1];exact h2.symm
theorem ql6(hf:nZ s l (l.zip xs)=false):(eX s l (l.zip xs)).ti (fJ l xs)=jz s l (l.zip xs):=by
 have he:=rA.all hp;have h2:=Sm.Tz (lk:=cw (l.zip xs)) (g:=mF) he.lk (eX s l (l.zip xs)) ha;have h3:((eX s l (l.zip xs)).whole mF).eu (cw (l.zip xs))=false:=by rw[<-h2];exact hf
 exact(Sm.uO (g:=mF) he.lk (Hq l xs) (eX s l (l.zip xs)) _ _ ha h3).symm
end
def Gr.rdE{n0:Nat}{l:List Bz}{v:V}{S:St}(h:Gr 1 n0 (l.map .str) v S):Rd v l S/\Go.Proofs.YtbifpocccfkhhaaGreatDoor.elems S v=some (l.map .str):=by
 rcases h with ⟨h1,rfl⟩|⟨lo,wr,_,rfl,h3,h4⟩
 .have:l=[]:=by simpa using h1
  subst this;exact⟨Rd.sl true [] S,mh S true []⟩
 .rw[bu]at h4 |-;exact⟨Rd.arr h3 h4,by simp[Go.Proofs.YtbifpocccfkhhaaGreatDoor.elems,h3,h4];exact iP sM⟩
def Kp.grow{S U U':St}{v:V}{xs:List V}{n0:Nat}(hk:Kp (fun _=>False) S U)(hn:S.length<=n0)(hg:Gr 1 n0 xs v U)(hl:U.length<=U'.length)(h:∀l o,U[l]?=some o->(∀n,v≠.arr l 0 n n)->U'[l]?=some o):Kp (fun _=>False) S U':=by
 refine⟨by have:=hk.len;omega,fun l hl' hn'=>?_⟩;have cA:l<U.length:=by have:=hk.len;omega
 have:=h l _ (bI cA) (hg.ne oM);rw[this,<-bI cA];exact hk.get l hl' hn'
def qlv(s:Sm)(os:s.ok)(hsz:(Pa.st s).size<150)(hn:Sm.aX [s]<150)(h0:(Pa.st s).err ar=0)(b b':Bool)(l:List Bz)(xs:List Ex)(hl:l.length<=9)(hxl:xs.length<=9)(hz:aY (xs.map Pa.ex)<=60)(ho:∀x,x∈xs->x.ok)(S:St):
  au prog 49 [s.v,.sl b (l.map .str),.sl b' (xs.map Ex.v)] S (fun r U=>r=.aH [sV s l xs,.int .i64 (sE s l xs)]/\Kp (fun _=>False) S U):=by
 refine au.ib Qa ?_;obtain⟨S1,hS1⟩:∃S1:St,S1=S++[.arr [s.v] 8 1,.arr [bX] 8 1]:=⟨_,rfl⟩;have b0:S1[S.length]?=some (.arr [s.v] 8 1):=by rw[hS1];simp
 have b1:S1[S.length+1]?=some (.arr [bX] 8 1):=by rw[hS1,bK oM];simp
 have l1:S1.length=S.length+2:=by rw[hS1];simp
 have kS:Kp (fun _=>False) S S1:=by rw[hS1];exact(Kp.refl _ _).push _
 have va:=(pS h0).2
 have he:sE s l xs=if fX l xs≠0 then fX l xs else qp s l (l.zip xs):=by
  unfold sE;rw[aj (by rw[h0];simp)]
 have hv:sV s l xs=if sE s l xs=0 then(jz s l (l.zip xs)).v else bX:=rfl
 have fin:∀(Y:St) (y:V) (e:Int) (ev:af),Kp (fun _=>False) S1 Y->sV s l xs=y->sE s l xs=e->ev.get 6=some (.ptr (S.length+1) 0 0 1)->ev.get 7=some (.int .i64 e)->V.part y 0 (some 8)=some y->
   eH [.cell 6 (some 8),.t 7] S.length (fun r U=>r=.aH [sV s l xs,.int .i64 (sE s l xs)]/\Kp (fun _=>False) S U) .ret ev (Y.set (S.length+1) (.arr [y] 8 1)):=fun Y y e ev kY hy he g6 g7 hp=>by
  have h1:=kY.at b1 id;have h2:(Y.set (S.length+1) (.arr [y] 8 1))[S.length+1]?=some (.arr [y] 8 1):=bJ (aM h1);exact aS (vs:=[y,.int .i64 e]) (by simp[dm,g6,g7,ae,h2,hp]) ⟨by rw[hy,he];rfl,(kS.trans kY).set _ (.inr oM)⟩
 simp only[bX]at hS1;simp[Qa,aC];rw[<-hS1];refine aG (ZO b b' l xs oM oM ho S1) ?_;by_cases hp:fX l xs=0
 case neg=>
  rw[ai hp]at he;rw[he,aj hp]at hv;simp[hp,bz,bj,aA,b1,bX,aE];refine fin _ bX _ _ (Kp.refl _ _) hv he ?_ ?_ rfl<;>simp
 rw[aj (by rw[hp];simp)]at he;obtain⟨pl,pn,pd,px⟩:=L0 hp;have lfr:=s.TM;have nfl:=LH xs
 have hT:(jJ l (l.zip xs)).length<=69:=by
  unfold jJ;have h1:=N3 l xs;have h2:(l++(l.zip xs).flatMap fun e=>e.2.eo).length=l.length+((l.zip xs).flatMap fun e=>e.2.eo).length:=cJ;exact fL (Nat.le_of_eq h2) oM
 have hfr:s.frees.length+Sm.aX [s]+(jJ l (l.zip xs)).length<=899:=by omega
 have hA:s.ap (xs.flatMap Ex.names++l)=eX s l (l.zip xs):=qbj fun z=>ql7 pl z
 have vY:(eX s l (l.zip xs)).ok:=Sm.IG s os va hfr;have av:(Pa.st (eX s l (l.zip xs))).valid ar=true:=Sm.Rx va hfr;have Rl:Sm.aX [eX s l (l.zip xs)]=Sm.aX [s]:=by rw[<-Sm.tN,eX,Sm.Rw va hfr,Sm.IK]
 have IU:(Pa.st (eX s l (l.zip xs))).size<150:=by
  have:=(Sm.og (lf (s.fE (jJ l (l.zip xs)))) s [ah s.labels 0] (ah s.labels 0).length).1;exact Nat.lt_of_le_of_lt this hsz
 have aF:=ql5 av hp;have aO:=ql6 av hp;have G0:(jz s l (l.zip xs)).ok:=Sm.NN (zM fun e he=>ho _ (qD (a:=e.1) (b:=e.2) he).2) _ vY;have hsu:qp s l (l.zip xs)=if(Pa.st (eX s l (l.zip xs))).err ar≠0 then(Pa.st (eX s l (l.zip xs))).err ar else if nZ s l (l.zip xs)=true then 10 else(Pa.st (jz s l (l.zip xs))).err ar:=rfl
 rw[hsu]at he;obtain⟨a,hAe⟩:∃a,a=eX s l (l.zip xs):=⟨_,rfl⟩;obtain⟨o,hOe⟩:∃o,o=jz s l (l.zip xs):=⟨_,rfl⟩;rw[<-hAe]at hA vY av Rl IU aF aO he;rw[<-hOe]at aO G0 he hv;simp[hp];obtain⟨D,hD⟩:∃D,D=S1++fg [V.agg [.sl true [],.int .i64 0,.str ⟨⟨[]⟩⟩,.sl true [],.sl true [],.sl true [],.sl true [],.sl true []]]:=⟨_,rfl⟩;have bD:D[S1.length]?=some (.arr [bX] 8 1):=by rw[hD];simp[fg,bX]
 have kD:Kp (fun _=>False) S1 D:=by rw[hD];exact(Kp.refl _ _).push _
 have cD:=kD.at b0 id;have pD:ae D (.ptr S.length 0 0 1) (some 8)=some s.v:=by simp[ae,cD]
 rw[<-hD];simp[pD];refine qw (qlI b' xs oM oM (fun x hx=>(pS (px x hx)).2) D) ?_ ?_
 .obtain⟨v,U,g,k⟩:=Gr.inh D.length ((xs.flatMap Ex.names).map .str) D bL;exact⟨v,U,g,k⟩
 rintro tv U1 ⟨hg,k1⟩;have hs1:=kD.trans k1;obtain⟨tw,U2,a1,a2,a3,a4,_⟩:=hg.rM (bytes:=16) (x:=.sl b (l.map .str)) (ys:=l.map .str) rfl (qL _) (by rw[bu,bu];omega) k1.len;rw[<-cy]at a2;have k2:Kp (fun _=>False) D U2:=k1.grow bL hg a3 a4;simp[a1];have q47:=qlt s va hsz hn tw (xs.flatMap Ex.names++l) (by rw[cJ];omega) U2 fun Y hY=>(a2.keep fun k _ h2=>hY k h2).rdE
 refine qw q47 ⟨_,U2,rfl,Kp.refl _ _⟩ ?_;rintro r U3 ⟨rfl,k3⟩;rw[hA];have bU:=k1.at bD id;have Rz:=k2.at bD id;have bV:=k3.at Rz id;have hs3:=kD.trans (k2.trans k3);have c1:=hs1.at b0 id;have c2:=(kD.trans k2).at b0 id;have c3:=hs3.at b0 id;have pU:ae U1 (.ptr S.length 0 0 1) (some 8)=some s.v:=by simp[ae,c1]
 have pU2:ae U2 (.ptr S.length 0 0 1) (some 8)=some s.v:=by simp[ae,c2]
 have pV:ae U3 (.ptr S.length 0 0 1) (some 8)=some s.v:=by simp[ae,c3]
 have hpa:V.part a.v 0 (some 8)=some a.v:=by simp[V.part,Sm.eP,V.isAgg,Sm.dJ]
 have uf:V.upd bX 0 8 a.v=some a.v:=by unfold bX;rw[aE];simp
 have hst:aA U3 (.ptr S1.length 0 0 1) 8 a.v=some (U3.set S1.length (.arr [a.v] 8 1)):=by
  unfold bX at bV uf;simp[aA,bV,uf]
 simp[hst,cU,dx,dG,pD,pU,pU2,pV,bD,bU,Rz,bV,bX];obtain⟨S2,hS2⟩:∃W,W=U3.set S1.length (.arr [a.v] 8 1):=⟨_,rfl⟩;have KV:Kp (fun _=>False) S1 S2:=by rw[hS2];exact hs3.set _ (.inr bL)
 have bA:S2[S1.length]?=some (.arr [a.v] 8 1):=by rw[hS2];exact bJ (aM bV)
 have pA:∀{W},Kp (fun _=>False) S2 W->ae W (.ptr S1.length 0 0 1) (some 8)=some a.v:=fun k=>by
  have c:=k.at bA id;simp[ae,c]
 rw[<-hS2];simp[pA (Kp.refl _ _)];refine aG (M7 a vY S2) ?_;by_cases ea:(Pa.st a).err ar=0
 case neg=>
  rw[ai ea]at he;rw[he,aj ea]at hv;have c:=KV.at b1 id;simp[ea,bz,bj,aA,c,bX,aE];refine fin _ bX _ _ KV hv he ?_ ?_ rfl<;>simp
 rw[aj (by rw[ea];simp)]at he;obtain⟨S3,hS3⟩:∃S3:St,S3=S2++[dK (fJ l xs) b b' (.sl true []) (.sl true []) (.sl true []) eT]:=⟨_,rfl⟩;have w3:S3[S2.length]?=some (dK (fJ l xs) b b' (.sl true []) (.sl true []) (.sl true []) eT):=by rw[hS3];simp
 have k23:Kp (fun _=>False) S2 S3:=by rw[hS3];exact(Kp.refl _ _).push _
 have l3:S3.length=S2.length+1:=by rw[hS3];simp
 have q1:Rk (fJ l xs) b b' S2.length (.sl true []) [] eT (fun _=>False) (fun _=>False) S3:=
  ⟨⟨_,_,w3,.inl ⟨rfl,rfl⟩,.inl ⟨rfl,rfl⟩,fun l a b c hh=>by cases hh⟩,.inl ⟨true,rfl⟩,fun l hl=>hl.elim id id |>.elim,id,id,fun l hl=>hl.elim,by omega⟩
 have ro:pL (fJ l xs):=⟨Nat.le_of_eq pl,by show xs.length<=_;omega⟩;have p:=Na (fJ l xs) ro b b' S2.length (.sl true []) a oM eT _ _ S3 q1 oM (by show 0+_<=_;omega);have d3:=pA k23;simp only[dK,eT,fJ]at hS3;simp[ea,bz,bj,aC,aE];rw[<-hS3];simp[d3];refine aU p ?_;rintro r W ⟨rfl,F1,D1,k4,s4⟩
 have mr:Kp (fun _=>False) S2 W:=⟨fL k23.len s4.k.len,fun k hk hn=>by
  rw[s4.k.get k oM (by rintro(hh|hh);omega;exact hh)];exact k23.get k hk hn⟩
 have kW:=KV.trans mr;obtain⟨vb,vf,w4,_,_,_⟩:=k4.wx;have hb:W[S2.length]?=some (dK (fJ l xs) b b' (.sl true []) vb vf (a.rs (fJ l xs) [ah a.labels 0] (ah a.labels 0).length eT)):=w4;obtain⟨W2,hW2⟩:∃W2,W2=W++[.arr [(a.ti (fJ l xs)).v] 8 1]:=⟨_,rfl⟩;have kX:Kp (fun _=>False) S1 W2:=by rw[hW2];exact kW.push _
 have g2:W2[S2.length]?=some (dK (fJ l xs) b b' (.sl true []) vb vf (a.rs (fJ l xs) [ah a.labels 0] (ah a.labels 0).length eT)):=by rw[hW2,b8 (aM hb)];exact hb
 have dg:ae W2 (.ptr S2.length 0 5 1) none=some (.bool (nZ s l (l.zip xs))):=by unfold dK at g2;simp[ae,g2,aF]
 have c1:=kX.at b1 id;have z8:(a.ti (fJ l xs)).v.size=8/\(a.ti (fJ l xs)).v.cells.all V.flat=true/\V.part (a.ti (fJ l xs)).v 0 (some 8)=some (a.ti (fJ l xs)).v:=⟨Sm.eP _,by simp,sx _⟩;simp[aC,Ni z8,cF];rw[<-hW2];simp[dg]
 cases hs:nZ s l (l.zip xs) with
 |true=>
  rw[ai hs]at he;rw[he,aj sM]at hv;simp[bz,bj,aA,c1,bX,aE];refine fin _ bX _ _ kX hv he ?_ ?_ rfl<;>simp
 |false=>
  rw[aj (by rw[hs];simp)]at he;have ho2:=aO hs;have o2:W2[W.length]?=some (.arr [o.v] 8 1):=by rw[hW2,ho2];simp
  have tP:ae W2 (.ptr W.length 0 0 1) (some 8)=some o.v:=by simp[ae,o2,sx,Sm.eP]
  simp[tP];refine aG (M7 o G0 W2) ?_;by_cases e0:(Pa.st o).err ar=0
  .rw[e0]at he;rw[he,ai rfl]at hv;have hu:V.upd bX 0 8 o.v=some o.v:=by unfold bX;rw[aE];simp
   unfold bX at hu c1;simp[e0,tP,aA,c1,hu];refine fin _ o.v _ _ kX hv he ?_ ?_ (sx _)<;>simp
  .rw[he,aj e0]at hv;simp[e0,bz,bj,aA,c1,bX,aE];refine fin _ bX _ _ kX hv he ?_ ?_ rfl<;>simp
def qi8{s:Sm}{l:List Bz}{xs:List Ex}(h:(Pa.st s).err ar≠0):sE s l xs=(Pa.st s).err ar:=by unfold sE;rw[ai h]
def qjl{x:Ex}{l:List Bz}{xs:List Ex}(h:(Pa.ex x).err ar≠0):j6 x l xs=(Pa.ex x).err ar:=by unfold j6;rw[ai h]
def qjo(x:Ex)(l:List Bz)(xs:List Ex):(j7 x l xs).size=7/\(j7 x l xs).cells.all V.flat=true/\V.part (j7 x l xs) 0 (some 7)=some (j7 x l xs):=by
 unfold j7;split
 .exact⟨Ex.eP _,by simp,by simp[V.part,Ex.eP,V.isAgg,Ex.dJ]⟩
 .exact⟨rfl,rfl,rfl⟩
def ZT{z:V}(z8:z.size=7/\z.cells.all V.flat=true/\V.part z 0 (some 7)=some z)(U:St):
 aA (U++[.arr [.agg [.int .i64 0,.int .i64 0,.int .i64 0,.int .i64 0,.int .i64 0,.str ⟨⟨[]⟩⟩,.sl true []]] 7 1]) (.ptr U.length 0 0 1) 7 z=some (U++[.arr [z] 7 1]):=by simp[aA,aE,z8]
def Vg{z:V}(z8:z.size=7/\z.cells.all V.flat=true/\V.part z 0 (some 7)=some z){U W:St}(k:Kp (fun _=>False) (U++[.arr [z] 7 1]) W):ae W (.ptr U.length 0 0 1) (some 7)=some z:=by
 have c:=k.at (l:=U.length) (o:=.arr [z] 7 1) sM id;simp[ae,c,z8]
open Classical in
def qkA(s:Sm)(e:Ex)(b:Bool)(l:List Bz)(xs:List Ex)(os:s.ok)(oe:e.ok)(hxl:xs.length<=aR)(ox:Ex.bR xs):Fn prog 16 [s.v,e.v,.sl b (l.map .str),.sl false (xs.map Ex.v)] [] (.bool true):=by
 refine au.ib OO ?_;obtain⟨S1,hS1⟩:∃S1:St,S1=[.arr [s.v] 8 1,.arr [e.v] 7 1]:=⟨_,rfl⟩;have b0:S1[0]?=some (.arr [s.v] 8 1):=by rw[hS1];rfl
 have b1:S1[1]?=some (.arr [e.v] 7 1):=by rw[hS1];rfl
 have ld:∀{U:St},Kp (fun _=>False) S1 U->ae U (.ptr 0 0 0 1) (some 8)=some s.v/\ae U (.ptr 1 0 0 1) (some 7)=some e.v:=fun k=>by
  have c0:=k.at b0 id;have c1:=k.at b1 id;simp[ae,c0,c1]
 obtain⟨d0,d1⟩:=ld (Kp.refl _ S1);simp[OO,aC];rw[<-hS1];simp[d0];refine aG (qkF s os S1) ?_
 cases la:s.light with
 |false=>
  simp;refine aG (zT S1) ?_;simp;exact aD (r:=rfl)
 |true=>
 have q26:Fn prog 26 [.sl true [e.v]] S1 (.bool (decide (0<Ex.cZ [e] 0 60))):=au.vn (by
  have:=ZG [e] (by simp[aR]) ⟨oe,trivial⟩ S1;simpa[V.cr,V.weak,Ex.iZ]using this)
 simp[d1,Ex.gn];refine aG q26 ?_;by_cases hf:0<Ex.cZ [e] 0 60
 case neg=>
  simp[hf];refine aG (zT S1) ?_;simp;exact aD (r:=rfl)
 simp[hf];by_cases hl:l.length<=9
 case neg=>
  simp[show(9:Int)<l.length by omega];refine aG (zT S1) ?_;simp;exact aD (r:=rfl)
 simp[show ¬((9:Int)<l.length) by omega];refine aG (ZG xs hxl ox S1) ?_;by_cases hx:xs.length<=9/\0<Ex.cZ xs 0 60
 case neg=>
  have:(decide (xs.length<=9)&&decide (0<Ex.cZ xs 0 60))=false:=by
   rw[Eh,decide_eq_false_iff_not,decide_eq_false_iff_not];exact Classical.not_and_iff_not_or_not.1 hx
  simp[this];refine aG (zT S1) ?_;simp;exact aD (r:=rfl)
 have zs:=Vl la;have ns:=qg0 la;have lfr:=s.TM
 have ze:(Pa.ex e).size<60:=by
  have:=Ex.zg [e] 0 60 hf;have h0:aY []=0:=rfl;rw[b9,jj,fq,h0]at this;omega
 have zx:aY (xs.map Pa.ex)<60:=by
  have:=Ex.zg xs 0 60 hx.2;omega
 have ho:=Ex.gW ox;have hz:∀x,x∈xs->(Pa.ex x).size<=4000:=fun x h=>by have:=YX h;omega
 have hT:(jJ l (l.zip xs)).length<=69:=by
  unfold jJ;have h1:=N3 l xs;have h2:(l++(l.zip xs).flatMap fun e=>e.2.eo).length=l.length+((l.zip xs).flatMap fun e=>e.2.eo).length:=cJ;exact fL (Nat.le_of_eq h2) oM
 have hfr:s.frees.length+Sm.aX [s]+(jJ l (l.zip xs)).length<=899:=by omega
 simp[hx.1,hx.2,d0];refine aU (qlo s os oM b false l xs oM oM hz ho hfr S1) ?_;rintro r U1 ⟨rfl,k1⟩;have y1:=qja s l xs;simp[aC,Ni y1];obtain⟨W1,hW1⟩:∃W,W=U1++[.arr [sV s l xs] 8 1]:=⟨_,rfl⟩;have j1:Kp (fun _=>False) S1 W1:=by rw[hW1];exact k1.push _
 have l1:∀{W},Kp (fun _=>False) W1 W->ae W (.ptr U1.length 0 0 1) (some 8)=some (sV s l xs):=fun k=>Vh y1 (by rw[<-hW1];exact k)
 rw[<-hW1];obtain⟨p0,p1⟩:=ld j1;simp[p1];refine aU (qlu e oe oM b false l xs oM oM hz ho W1) ?_;rintro r U2 ⟨rfl,k2⟩;have y2:=qjo e l xs;simp[aC,ZT y2];obtain⟨W2,hW2⟩:∃W,W=U2++[.arr [j7 e l xs] 7 1]:=⟨_,rfl⟩;have j2:Kp (fun _=>False) W1 W2:=by rw[hW2];exact k2.push _
 have l2:∀{W},Kp (fun _=>False) W2 W->ae W (.ptr U2.length 0 0 1) (some 7)=some (j7 e l xs):=fun k=>Vg y2 (by rw[<-hW2];exact k)
 rw[<-hW2];obtain⟨p0,p1⟩:=ld (j1.trans j2);simp[p0];refine aG (M7 s os W2) ?_;simp[-vX];refine dE (fun E U=>U=W2/\E.get 2=some (.sl b (l.map .str))/\E.get 3=some (.sl false (xs.map Ex.v))/\E.get 4=some (.ptr 0 0 0 1)/\E.get 5=some (.ptr 1 0 0 1)/\E.get 9=some (.ptr U1.length 0 0 1)/\E.get 10=some (.int .i64 (sE s l xs))/\E.get 11=some (.ptr U2.length 0 0 1)/\E.get 12=some (.int .i64 (j6 e l xs))/\E.get 13=some (.int .i64 ((Pa.st s).err ar))) ?_ ?_
 .by_cases h0:(Pa.st s).err ar=0
  .simp[h0]
  .simp[h0,qi8 h0]
 rintro E U ⟨rfl,g2,g3,g4,g5,g9,g10,g11,g12,g13⟩;refine dE (fun E X=>Kp (fun _=>False) U X/\E.get 2=some (.sl b (l.map .str))/\E.get 3=some (.sl false (xs.map Ex.v))/\E.get 5=some (.ptr 1 0 0 1)/\E.get 11=some (.ptr U2.length 0 0 1)/\E.get 12=some (.int .i64 (j6 e l xs))) ?_ ?_
 .by_cases h0:(Pa.st s).err ar=0
  case neg=>
   simp[h0,g13];exact⟨Kp.refl _ _,g2,g3,g5,g11,g12⟩
  simp[h0,g13,g2,g3,g4,p0];refine aU (qlv s os zs ns h0 b false l xs hl hx.1 oM ho U) ?_;rintro r U3 ⟨rfl,k3⟩;simp[aC,Ni y1];obtain⟨W3,hW3⟩:∃W,W=U3++[.arr [sV s l xs] 8 1]:=⟨_,rfl⟩;have j3:Kp (fun _=>False) U W3:=by rw[hW3];exact k3.push _
  have m3:ae W3 (.ptr U3.length 0 0 1) (some 8)=some (sV s l xs):=Vh y1 (by rw[<-hW3];exact Kp.refl _ _);have m1:=l1 (j2.trans j3);rw[<-hW3];by_cases e1:sE s l xs=0
  case neg=>
   simp[g10,e1];exact⟨j3,by simp[g2],by simp[g3],by simp[g5],by simp[g11],by simp[g12]⟩
  have r1:=(qi9 e1).2.2.2.2;have v1:sV s l xs=(jz s l (l.zip xs)).v:=ai e1;have o1:(jz s l (l.zip xs)).ok:=Sm.NN (zM fun e he=>ho _ (qD (a:=e.1) (b:=e.2) he).2) _ (Sm.IG s os (pS h0).2 hfr);rw[v1]at m1 m3;simp[g10,e1,g9,m1,m3];refine aG (qk9 _ _ o1 o1 (pS r1).1 (pS r1).1 W3) ?_;simp;exact⟨j3,by simp[g2],by simp[g3],by simp[g5],by simp[g11],by simp[g12]⟩
 rintro E X ⟨kX,g2,g3,g5,g11,g12⟩;obtain⟨q0,q1⟩:=ld (j1.trans (j2.trans kX));simp[g5,q1];refine aG (M8 e oe X) ?_;by_cases h0:(Pa.ex e).err ar=0
 case neg=>
  simp[h0];refine aG (zT X) ?_;simp[g12,qjl h0];exact aD (r:=rfl)
 simp[h0,g2,g3,g5,q1];refine aU (qlw e oe oM h0 b false l xs oM oM ho X) ?_;rintro r U4 ⟨rfl,k4⟩;simp[aC,ZT y2];obtain⟨W4,JY⟩:∃W,W=U4++[.arr [j7 e l xs] 7 1]:=⟨_,rfl⟩;have j4:Kp (fun _=>False) X W4:=by rw[JY];exact k4.push _
 have m4:ae W4 (.ptr U4.length 0 0 1) (some 7)=some (j7 e l xs):=Vg y2 (by rw[<-JY];exact Kp.refl _ _);have m2:=l2 (kX.trans j4);rw[<-JY];refine aG (zT W4) ?_;by_cases e2:j6 e l xs=0
 case neg=>
  simp[g12,e2];exact aD (r:=rfl)
 have r2:(Pa.ex (nW e (l.zip xs))).err ar=0:=by
  have h:=e2;unfold j6 at h
  repeat' split at h
  all_goals first|exact h|contradiction|cases h
 have v2:j7 e l xs=(nW e (l.zip xs)).v:=ai e2;have o2:(nW e (l.zip xs)).ok:=Ex.pq (zM fun e he=>ho _ (qD he).2) [] false e oe;rw[v2]at m2 m4;simp[g12,e2,g11,m2,m4];refine aG (qlx _ _ o2 o2 (pS r2).1 (pS r2).1 W4) ?_;simp;exact aD (r:=rfl)
end Go.Proofs.YtbifpocccfkhhaaGreatDoor
end
