/- A part. -/
import Derived.Test.YtbifpocccfkhhaaGreatDoorWh
set_option linter.all false
namespace Go.Proofs.YtbifpocccfkhhaaGreatDoor
open Go Go.Proofs.Tryz
abbrev cT:=List (Bz×Nat×Nat)
def cT.kK(t:cT):bw:=t.map fun e=>(e.1,e.2.1)
def oR(e:Bz×Nat×Nat):V×V:=(.str e.1,.ptr e.2.2 0 0 1)
def dZ(x:Bz)(k:Nat)(y:Bz):Ob:=.arr [.agg [.int .i64 k,.str x,.str y]] 3 1
def cS(p:Pw)(X:Np)(S:St):V->List cT->Prop
 |v,[]=>v=.bF
 |v,t::r=>∃l lo lm v' bs ck,v=.ptr l 0 0 1/\(¬X l/\¬X lo/\¬X lm)/\S[l]?=some (.arr [.agg [.ptr lo 0 0 1,.map lm]] 2 1)/\S[lo]?=some (.arr [.agg [v']] 1 1)/\S[lm]?=some (.map (t.map oR) bs ck)/\
  (∀e,e∈t->¬X e.2.2/\S[e.2.2]?=some (dZ e.1 e.2.1 (p.f e.2.1 e.1)))/\cS p X S v' r
def am(ts:List cT):ag:=ts.map cT.kK
def mB:cT->Bz->Option (Nat×Nat)
 |[],_=>none
 |e::t,x=>if e.1=x then some e.2 else mB t x
def kq:List cT->Bz->Option (Nat×Nat)
 |[],_=>none
 |t::r,x=>match mB t x with
  |some p=>some p
  |none=>kq r x
def gK(ts:List cT)(x:Bz):V:=match kq ts x with
 |some p=>.ptr p.2 0 0 1
 |none=>.bF
def Ln:∀(t:cT) (x:Bz),bw.at t.kK x=(mB t x).map (·.1)
 |[],_=>rfl
 |e::t,x=>by
  have ih:=Ln t x;simp only[bw.at,cT.kK,b9,vH,mB]at *;by_cases h:e.1=x
  .simp[h]
  .simp only[dy h,aj h];exact ih
def tY:∀(ts:List cT) (x:Bz),(am ts).at x=(kq ts x).map (·.1)
 |[],_=>rfl
 |t::r,x=>by
  have ih:=tY r x;simp only[am,b9,ag.at,kq]at *;rw[Ln]
  cases mB t x with
  |none=>exact ih
  |some p=>rfl
def Vo:∀{t:cT} {x:Bz} {p:Nat×Nat},mB t x=some p->(x,p.1,p.2)∈t
 |e::t,x,p,h=>by
  simp only[mB]at h;split at h
  .rename_i hx;cases h;subst hx;simp
  .exact mc _ (Vo h)
def cS.BE{p:Pw}{X:Np}{S:St}:∀{ts:List cT} {v:V} {x:Bz} {q:Nat×Nat},cS p X S v ts->kq ts x=some q->S[q.2]?=some (dZ x q.1 (p.f q.1 x))
 |t::r,v,x,q,⟨l,lo,lm,v',bs,ck,_,_,_,_,_,h5,h6⟩,hf=>by
  simp only[kq]at hf;split at hf
  .rename_i q hq;cases hf;exact(h5 _ (Vo hq)).2
  .exact cS.BE h6 hf
def Lt(x:Bz):∀(t:cT) (i:Nat),∃j,jF .str (.str x) (t.map oR) i=some ((mB t x).map fun p=>(j,.ptr p.2 0 0 1))
 |[],i=>⟨0,rfl⟩
 |e::t,i=>by
  simp only[b9,oR,jF,nN,mB];by_cases h:x=e.1
  .rw[show(x.data.toList==e.1.data.toList)=true by rw[h];simp,ai h.symm];exact⟨i,rfl⟩
  ·rw[show (x.data.toList==e.1.data.toList)=false by
    rw[beq_eq_false_iff_ne];intro hh;exact h (pE (qz hh)),aj (Ne.symm h)]
   exact Lt x t (i+1)
def Vm{S:St}{lm:Nat}{t:cT}{bs:List Nat}{ck:Nat}(x:Bz)(h:S[lm]?=some (.map (t.map oR) bs ck)):
  mA S .str .bF true (.map lm) (.str x)=some (.aH [(match mB t x with|some p=>.ptr p.2 0 0 1|none=>.bF),.bool (mB t x).isSome]):=by
 obtain⟨j,hj⟩:=Lt x t 0;unfold mA;rw[ai (by rfl)];simp only[uk,h,hj];cases mB t x<;>rfl
def xQ{p:Pw}{X:Np}{S:St}{ts:List cT}{v:V}(h:cS p X S v ts)(x:Bz):Fn prog 60 [v,.str x] S (gK ts x):=by
 refine au.ib Qf ?_;generalize hr:gK ts x=r;simp only[Qf,eZ];simp only[QZ,vX,Q0,Yg,QT];refine bN (fun j e S'=>∃(ts':List cT) (v':V),j=ts'.length/\cS p X S v' ts'/\gK ts' x=r/\S'=S/\e=[(0,v'),(1,.str x)]) ts.length _ ?_ ⟨ts,v,rfl,h,hr,rfl,rfl⟩ ?_
 .exact aN
 rintro j e S' ⟨ts',v',rfl,h',hr',rfl,rfl⟩
 cases ts' with
 |nil=>
  have h':v'=.bF:=h';subst h';have:r=.bF:=by rw[<-hr'];rfl
  subst this;simp[eh,dN,xy];exact aS rfl ⟨rfl,rfl⟩
 |cons t r'=>
  obtain⟨l,lo,lm,v'',bs,ck,rfl,_,h2,h3,h4,h5,h6⟩:=h';have hl:=Vm x h4;simp[eh,dN,cF,ae,h2,aZ,hl]
  cases hk:mB t x with
  |some p=>
   have:r=.ptr p.2 0 0 1:=by rw[<-hr'];simp[gK,kq,hk]
   subst this;simp[xy];exact aS rfl ⟨rfl,rfl⟩
  |none=>
   simp[eh,dN,cF,ae,h2,h3];refine⟨_,?_,_,?_,r',rfl,v'',h6,?_,rfl⟩
   .simp
   .exact aN
   .rw[<-hr'];simp[gK,kq,hk]
def cS.mono{p:Pw}{X X':Np}{S U:St}(hk:Kp X S U)(hX:∀l,X' l->X l\/S.length<=l):∀{ts:List cT} {v:V},cS p X S v ts->cS p X' U v ts
 |[],_,h=>h
 |t::r,v,⟨l,lo,lm,v',bs,ck,h1,⟨x1,x2,x3⟩,h2,h3,h4,h5,h6⟩=>by
  have no:∀{l:Nat} {o:Ob},S[l]?=some o->¬X l->¬X' l:=fun ho hn hx=>(hX _ hx).elim hn fun hh=>by have:=(aT.1 ho).1;omega
  exact⟨l,lo,lm,v',bs,ck,h1,⟨no h2 x1,no h3 x2,no h4 x3⟩,hk.at h2 x1,hk.at h3 x2,hk.at h4 x3,fun e he=>⟨no (h5 e he).2 (h5 e he).1,hk.at (h5 e he).2 (h5 e he).1⟩,cS.mono hk hX h6⟩
def cS.sub{p:Pw}{X X':Np}{S:St}{v:V}{ts:List cT}(h:cS p X S v ts)(hX:∀l,X' l->X l):cS p X' S v ts:=h.mono (Kp.refl _ _) fun l hl=>.inl (hX l hl)
def cS.more{p:Pw}{X X':Np}{S:St}{v:V}{ts:List cT}(h:cS p X S v ts)(hX:∀l,X' l->X l\/S.length<=l):cS p X' S v ts:=h.mono (Kp.refl _ _) hX
structure Cb extends Pw where
 fe:V
 fn:V
 fc:V
 I:H->Np->Np->St->Prop
 cn:H->Np
 lim:Nat
def nc(c:Cb)(n:Nat):Ob:=.arr [.agg [.int .i64 n,c.fe,c.fn,c.fc]] 4 1
def grow(S:St)(F F':Np):Prop:=∀l,F' l->F l\/S.length<=l
def grow.refl(S:St)(F:Np):grow S F F:=fun _ h=>.inl h
def grow.trans{S T:St}{F G K:Np}(h:grow S F G)(g:grow T G K)(hl:S.length<=T.length):grow S F K:=fun l hk=>(g l hk).elim (h l) fun hh=>.inr oM
structure Wk(c:Cb)(w n:Nat)(h:c.H)(F D:Np)(S:St):Prop where
 tw:S[w]?=some (nc c n)
 st:c.I h F D S
 nF:¬F w
 nD:¬D w
 cn:c.cn h n
structure Stp(w:Nat)(F D:Np)(S:St)(F' D':Np)(U:St):Prop where
 k:Kp (fun l=>l=w\/F l) S U
 gF:grow S F F'
 gD:grow S D D'
def Stp.refl(w:Nat)(F D:Np)(S:St):Stp w F D S F D S:=⟨Kp.refl _ _,grow.refl _ _,grow.refl _ _⟩
def Stp.trans{w:Nat}{F D F1 D1 F2 D2:Np}{S T U:St}(h:Stp w F D S F1 D1 T)(g:Stp w F1 D1 T F2 D2 U):Stp w F D S F2 D2 U:=
 ⟨⟨fL h.k.len g.k.len,fun l hl hn=>by
  rw[g.k.get l (jP hl h.k.len) fun hh=>hn (hh.elim .inl fun hh=>(h.gF l hh).elim .inr fun hh=>by omega)];exact h.k.get l hl hn⟩,h.gF.trans g.gF h.k.len,h.gD.trans g.gD h.k.len⟩
structure Cb.Ok(c:Cb):Prop where
 lim:c.lim<=100001
 lt:∀{h F D S},c.I h F D S->∀l,F l\/D l->l<S.length
 fr:∀{h F D S U M},c.I h F D S->Kp M S U->(∀l,M l->l<S.length->¬F l/\¬D l)->c.I h F D U
 lp:∀{h F D S},c.I h F D S->∀l o,S[l]?=some (.loop o)->¬F l/\¬D l
 ce:∀{h n} x,c.cn h n->c.cn (c.ent h n x) (n+1)
 cm:∀{h n} x sc tg,c.cn h n->c.cn (c.oZ h x sc tg) n
 cc:∀{h n} x sc,c.cn h n->c.cn (c.lC h x sc) n
 real:∀{h F D S},c.I h F D S->∀h',∃F' D' U,c.I h' F' D' U/\Kp F S U/\grow S F F'/\grow S D D'
 en:(c.fe=.bB/\(∀k x,c.f k x=x)/\∀h k x,c.ent h k x=h)\/∃g cs,c.fe=.fn (.func g) [] cs/\∀(U:St) (p k:Nat) (x:Bz) (h:c.H) (F D:Np),U[p]?=some (dZ x k x)->¬F p->¬D p->k<c.lim->c.cn h k->c.I h F D U->
  au prog g ([.ptr p 0 0 1]++cs) U (fun _ U'=>∃F' D',c.I (c.ent h k x) F' D' U'/\U'[p]?=some (dZ x k (c.f k x))/\Kp (fun l=>l=p\/F l) U U'/\grow U F F'/\∀l,D' l->D l\/l=p\/U.length<=l)
 nm:match c.nm with
  |none=>c.fn=.bB
  |some g=>∃k cs,c.fn=.fn (.func k) [] cs/\∀(U:St) (x:Ex) (v:V) (ts:List cT) (tg:Bool) (w:Nat) (h:c.H) (F D:Np),cS c.toPw (fun l=>l=w\/F l) U v ts->c.I h F D U->
   au prog k ([x.v,v,.bool tg]++cs) U (fun r U'=>r=(g x (am ts) tg).v/\∃F' D',c.I (c.oZ h x (am ts) tg) F' D' U'/\Kp F U U'/\grow U F F'/\grow U D D')
 cl:match c.cl with
  |none=>c.fc=.bB
  |some g=>∃k cs,c.fc=.fn (.func k) [] cs/\∀(U:St) (x:Bz) (v:V) (ts:List cT) (w:Nat) (h:c.H) (F D:Np),cS c.toPw (fun l=>l=w\/F l) U v ts->c.I h F D U->
   au prog k ([.str x,v]++cs) U (fun r U'=>r=.str (g x (am ts))/\∃F' D',c.I (c.lC h x (am ts)) F' D' U'/\Kp F U U'/\grow U F F'/\grow U D D')
def Wk.push{c:Cb}(ok:c.Ok){w n:Nat}{h:c.H}{F D:Np}{S:St}(k:Wk c w n h F D S)(os:List Ob):Wk c w n h F D (S++os):=
 ⟨by rw[b8 (aT.1 k.tw).1];exact k.tw,ok.fr (M:=fun _=>False) k.st ((Kp.refl _ _).push _) (fun _ h=>h.elim),k.nF,k.nD,k.cn⟩
def Wk.set{c:Cb}(ok:c.Ok){w n:Nat}{h:c.H}{F D:Np}{S:St}(k:Wk c w n h F D S){l:Nat}(o:Ob)(hw:l≠w)(hF:¬F l)(hD:¬D l):Wk c w n h F D (S.set l o):=
 ⟨by rw[bC hw];exact k.tw,ok.fr (M:=fun x=>x=l) k.st ((Kp.refl _ _).set _ (.inl rfl)) (fun x hx _=>by rw[hx];exact⟨hF,hD⟩),k.nF,k.nD,k.cn⟩
def Wk.out{c:Cb}(ok:c.Ok){w n:Nat}{h:c.H}{F D:Np}{S:St}(k:Wk c w n h F D S){l:Nat}(hl:S.length<=l):l≠w/\¬F l/\¬D l:=
 ⟨by rintro rfl;have:=(aT.1 k.tw).1;omega,fun hf=>by have:=ok.lt k.st l (.inl hf);omega,fun hf=>by have:=ok.lt k.st l (.inr hf);omega⟩
def er(w:Nat)(F D:Np)(l:Nat):Prop:=l≠w/\¬F l/\¬D l
def er.next{w:Nat}{F D F' D':Np}{S U:St}{l:Nat}(h:er w F D l)(hl:l<S.length)(s:Stp w F D S F' D' U):er w F' D' l:=
 ⟨h.1,fun hf=>(s.gF l hf).elim h.2.1 oM,fun hf=>(s.gD l hf).elim h.2.2 oM⟩
def Stp.at{w:Nat}{F D F' D':Np}{S U:St}{l:Nat}{o:Ob}(s:Stp w F D S F' D' U)(h:er w F D l)(ho:S[l]?=some o):U[l]?=some o:=s.k.at ho fun hh=>hh.elim h.1 h.2.1
def Stp.push{w:Nat}{F D F' D':Np}{S U:St}(s:Stp w F D S F' D' U)(os:List Ob):Stp w F D S F' D' (U++os):=⟨s.k.push os,s.gF,s.gD⟩
def Stp.set{w:Nat}{F D F' D':Np}{S U:St}(s:Stp w F D S F' D' U){l:Nat}(o:Ob)(hl:S.length<=l):Stp w F D S F' D' (U.set l o):=⟨s.k.set o (.inr hl),s.gF,s.gD⟩
def Stp.ofPush{w:Nat}{F D F' D':Np}{S U:St}{os:List Ob}(s:Stp w F D (S++os) F' D' U):Stp w F D S F' D' U:=
 ⟨s.k.ofPush,fun l h=>(s.gF l h).imp id fun hh=>by simp at hh;omega,fun l h=>(s.gD l h).imp id fun hh=>by simp at hh;omega⟩
def cS.step{p:Pw}{w:Nat}{F D F' D':Np}{S U:St}{v:V}{ts:List cT}(h:cS p (fun l=>l=w\/F l) S v ts)(s:Stp w F D S F' D' U):cS p (fun l=>l=w\/F' l) U v ts:=
 h.mono s.k fun l hh=>hh.elim (fun e=>.inl (.inl e)) fun e=>(s.gF l e).imp .inr id
def cS.push{p:Pw}{X:Np}{S:St}{v:V}{ts:List cT}(h:cS p X S v ts)(os:List Ob):cS p X (S++os) v ts:=h.mono ((Kp.refl _ _).push _) fun _ hh=>.inl hh
def pg(l:List Bz):List (List V):=l.map fun x=>[.str x]
def Nj{l:List Bz}{i:Nat}{x:Bz}(h:l[i]?=some x):(pg l)[i]?=some [.str x]:=by simp[pg,h]
def DV(l:List Bz):(pg l).length=l.length:=by simp[pg]
def qec{α β:Type}(g:α->List β){l:List α}{i:Nat}(h:i<l.length):l.flatMap g=(l.take i).flatMap g++(g l[i]++(l.drop (i+1)).flatMap g):=by
 have h1:l=l.take i++(l[i]::l.drop (i+1)):=by rw[<-rF h,lA]
 conv=>lhs;rw[h1]
 rw[AB,iO]
def TB{α β:Type}(g:α->List β){l:List α}{i j:Nat}{y:β}(h:i<l.length)(hj:(g l[i])[j]?=some y):(l.flatMap g)[((l.take i).flatMap g).length+j]?=some y:=by
 rw[qec g h,bK oM,vS,b8 (aT.1 hj).1,hj]
def TC{α β:Type}(g:α->List β){l:List α}{i:Nat}(h:i<l.length):((l.take (i+1)).flatMap g).length=((l.take i).flatMap g).length+(g l[i]).length:=by
 rw[cY,bI h,gZ,AB,cJ];simp
def qe(d:List De):List Bz:=d.flatMap De.names
theorem I8(d:List De)(b:List Sm):bM d b=qe d++bq b:=rfl
def MZ(l:List Sm)(b:Bool)(S:St):au prog 158 [.sl b (l.map Sm.v)] S (fun v U=>v=.fn (.func 187) [] [.ptr S.length 0 0 1]/\U=S++[.arr [.sl false (l.map Sm.v)] 1 1]):=by
 refine au.vn ?_;simp only[V.cr,V.weak,i4];refine au.ib OM ?_;simp[OM,aC];exact aS rfl ⟨rfl,rfl⟩
def qk2(s:Sm)(S:St):au prog 219 [s.v] S (fun v U=>v=.fn (.func 255) [] [.ptr S.length 0 0 1]/\U=S++[.arr [s.v] 8 1]):=by
 refine au.ib PE ?_;simp[PE,aC];exact aS rfl ⟨rfl,rfl⟩
def qlm(d:De)(S:St):au prog 272 [d.v] S (fun v U=>v=.fn (.func 277) [] [.ptr S.length 0 0 1]/\U=S++[.arr [d.v] 7 1]):=by
 refine au.ib P0 ?_;simp[P0,aC];exact aS rfl ⟨rfl,rfl⟩
def qm2(d:De)(hl:d.aB.length<=aR)(c:Nat):AZ prog 277 [] [.ptr c 0 0 1] (pg (d.aB.map Fo.name)) (fun U=>U[c]?=some (.arr [d.v] 7 1)):=by
 intro S l J D F0 hB hcap hJ hD _ _ hy h0;have hc:=hcap _ _ _ h0;unfold aR at hl;rw[DV,bu];refine au.ib P1 ?_;simp[P1,ae,hc];refine bN (fun j e S'=>∃i:Nat,j=d.aB.length - i∧i≤d.aB.length∧∃F,J i F S'∧Kg F0 S F S'∧
  e=[(8,.int .i64 i),(7,.int .i64 d.aB.length),(6,.sl false (d.aB.map Fo.v)),(0,.cj l)]) d.aB.length _ ?_ ⟨0,by simp,by omega,F0,h0,Kg.refl _ _,rfl⟩ ?_
 .exact aN
 rintro j e S' ⟨i,rfl,hi,F,hj,hk,rfl⟩;by_cases h:i<d.aB.length
 .simp[h,qO,aC,aA,aE,ae];refine uX (hy i _ (Nj (x:=d.aB[i].name) (by simp[h])) F _ (hJ _ _ _ _ hj) (hk.push _)) ?_;rintro v U' ⟨F',hk',⟨rfl,hj'⟩|⟨rfl,hd'⟩⟩
  .simp[bP i];refine⟨_,?_,_,?_,i+1,rfl,by omega,F',hj',(hk.push _).trans hk',rfl⟩
   .omega
   .exact aN
  .simp;exact aS rfl ⟨F',(hk.push _).trans hk',.inr hd'⟩
 .simp[h];have:i=d.aB.length:=by omega
  subst this;exact i9 rfl ⟨F,hk,.inl hj⟩
def NZ(l:List Sm)(hl:l.length<=aR)(hok:Sm.bR l)(c:Nat):AZ prog 187 [] [.ptr c 0 0 1] (pg (bq l)) (fun U=>U[c]?=some (.arr [.sl false (l.map Sm.v)] 1 1)):=by
 intro S y J D F0 hB hcap hJ hD _ _ hy h0;have hc:=hcap _ _ _ h0;unfold aR at hl;rw[DV];refine au.ib O6 ?_;simp[O6,ae,hc];refine bN (fun j e S'=>∃i:Nat,j=l.length - i∧i≤l.length∧∃F,J (bq (l.take i)).length F S'∧Kg F0 S F S'∧
  e=[(9,.int .i64 i),(8,.int .i64 l.length),(7,.sl false (l.map Sm.v)),(0,.cj y)]) l.length _ ?_ ⟨0,by simp,by omega,F0,h0,Kg.refl _ _,rfl⟩ ?_
 .exact aN
 rintro j e S' ⟨i,rfl,hi,F,hj,hk,rfl⟩;by_cases h:i<l.length
 case neg=>
  simp[h];have:i=l.length:=by omega
  subst this;rw[eR]at hj;exact i9 rfl ⟨F,hk,.inl hj⟩
 have hll:=((Sm.ep _).1 (Sm.gW hok _ (cI h))).labels.1;unfold aR at hll;simp[h,pY,aC,aA,aE,ae];refine du (fun e U=>∃F,J (bq (l.take (i+1))).length F U/\Kg F0 S F U/\e.get 9=some (.int .i64 i)/\e.get 8=some (.int .i64 l.length)/\e.get 7=some (.sl false (l.map Sm.v))/\e.get 0=some (.cj y)) ?_ ?_
 ·refine bN (fun j e U=>∃k:Nat,j=l[i].labels.length - k∧k≤l[i].labels.length∧∃F,J ((bq (l.take i)).length+k) F U∧Kg F0 S F U∧
   e=[(16,.int .i64 k),(15,.int .i64 l[i].labels.length),(14,.sl false (l[i].labels.map .str)),(9,.int .i64 i),(8,.int .i64 l.length),(7,.sl false (l.map Sm.v)),(0,.cj y)]) l[i].labels.length _ ?_ ⟨0,by simp,by omega,F,hJ _ _ _ _ hj,hk.push _,rfl⟩ ?_
  .exact aN
  rintro j e U ⟨k,rfl,hki,F,hj,hk,rfl⟩;by_cases g:k<l[i].labels.length
  .simp[g,jb];refine uX (hy _ _ (Nj (TB Sm.labels h (y:=l[i].labels[k]) (by simp[g]))) F _ hj hk) ?_;rintro v U' ⟨F',hk',⟨rfl,hj'⟩|⟨rfl,hd'⟩⟩
   .simp[bP k];refine⟨_,?_,_,?_,k+1,rfl,by omega,F',hj',hk.trans hk',rfl⟩
    .omega
    .exact aN
   .simp;exact aS rfl ⟨F',hk.trans hk',.inr hd'⟩
  .have:k=l[i].labels.length:=by omega
   subst this;simp;refine⟨F,?_,hk⟩;have:=TC Sm.labels h;unfold bq at *;rw[this];exact hj
 rintro e U ⟨F,hj,hk,g9,g8,g7,g0⟩;simp[g9,bP i];refine⟨_,?_,_,?_,i+1,rfl,by omega,F,hj,hk,rfl⟩
 .omega
 .repeat' first|exact af.fh _|refine af.dV (by simp[g8,g7,g0]) ?_
def qm1(s:Sm)(hds:s.decls.length<=aR/\De.bR s.decls)(hbs:s.body.length<=aR/\Sm.bR s.body)(c:Nat):AZ prog 255 [] [.ptr c 0 0 1] (pg (bM s.decls s.body)) (fun U=>U[c]?=some (.arr [s.v] 8 1)):=by
 intro S y J D F0 hB hcap hJ hD rU hDl hy h0;have hc:=hcap _ _ _ h0;have hdl:=hds.1;unfold aR at hdl;rw[DV];have nM:¬F0 S.length:=fun h=>by have:=hB _ _ _ h0 _ h;omega
 have hyd:∀(i:Nat) (x:Bz),(qe s.decls)[i]?=some x->∀F U,J i F U->Kg F0 S F U->fA prog y [.str x] U (fun v U'=>∃F',Kg F U F' U'/\((v=.bool true/\J (i+1) F' U')\/(v=.bool false/\D F' U'))):=fun i x hx=>
  hy i _ (Nj (by rw[I8,b8 (aT.1 hx).1];exact hx))
 have hyl:∀(i:Nat) (a:List V),(pg (bq s.body))[i]?=some a->∀F U,J ((qe s.decls).length+i) F U->Kg F0 S F U->fA prog y a U (fun v U'=>∃F',Kg F U F' U'/\((v=.bool true/\J ((qe s.decls).length+i+1) F' U')\/(v=.bool false/\D F' U'))):=fun i a ha=>
  hy _ a (by
   unfold pg at ha |-;rw[dS]at ha;obtain⟨x,hx,rfl⟩:=dL.1 ha;rw[I8,cy];rw[bK sM,bu,vS];simp[hx])
 refine au.ib ⟨_,func255,ok255⟩ ?_;have hc1:(S++[Ob.arr [.cj y] 1 1])[c]?=some (.arr [s.v] 8 1):=gp hc;have hy1:(S++[Ob.arr [.cj y] 1 1])[S.length]?=some (.arr [.cj y] 1 1):=by simp
 have hk1:Kg F0 S F0 (S++[Ob.arr [.cj y] 1 1]):=(Kg.refl _ _).push _;have hj1:=hJ _ _ _ (Ob.arr [.cj y] 1 1) h0;simp[c255,aC,V.cells,V.flat,V.size];generalize S++[Ob.arr [.cj y] 1 1]=S1 at hc1 hy1 hk1 hj1 |-;simp[ae,hc1];refine du (fun e U=>∃F,J (qe s.decls).length F U/\Kg F0 S F U/\¬F S.length/\U[S.length]?=some (.arr [.cj y] 1 1)/\e.get 1=some (.ptr c 0 0 1)/\e.get 2=some (.ptr S.length 0 0 1)) ?_ ?_
 ·refine bN (fun j e U=>∃i:Nat,j=s.decls.length - i∧i≤s.decls.length∧∃F,J (qe (s.decls.take i)).length F U∧Kg F0 S F U∧¬ F S.length∧U[S.length]?=some (.arr [.cj y] 1 1)∧
   e=[(11,.int .i64 i),(10,.int .i64 s.decls.length),(9,.sl false (s.decls.map De.v)),(1,.ptr c 0 0 1),(2,.ptr S.length 0 0 1)]) s.decls.length _ ?_ ⟨0,by simp,by omega,F0,hj1,hk1,nM,hy1,rfl⟩ ?_
  .exact aN
  rintro j e U ⟨i,rfl,hi,F,hj,hk,nF,jX,rfl⟩;by_cases h:i<s.decls.length
  case neg=>
   have:i=s.decls.length:=by omega
   subst this;rw[eR]at hj;simp;exact⟨F,hj,hk,nF,jX⟩
  have hll:=((De.ep _).1 (De.gW hds.2 _ (cI h))).names.1;unfold aR at hll;simp[h,wP,aC,aA,aE,ae];refine du (fun e U=>∃F,J (qe (s.decls.take (i+1))).length F U/\Kg F0 S F U/\¬F S.length/\U[S.length]?=some (.arr [.cj y] 1 1)/\e.get 11=some (.int .i64 i)/\e.get 10=some (.int .i64 s.decls.length)/\e.get 9=some (.sl false (s.decls.map De.v))/\e.get 1=some (.ptr c 0 0 1)/\e.get 2=some (.ptr S.length 0 0 1)) ?_ ?_
  ·refine bN (fun j e U=>∃k:Nat,j=s.decls[i].names.length - k∧k≤s.decls[i].names.length∧∃F,J ((qe (s.decls.take i)).length+k) F U∧Kg F0 S F U∧¬ F S.length∧U[S.length]?=some (.arr [.cj y] 1 1)∧
    e=[(18,.int .i64 k),(17,.int .i64 s.decls[i].names.length),(16,.sl false (s.decls[i].names.map .str)),(11,.int .i64 i),(10,.int .i64 s.decls.length),(9,.sl false (s.decls.map De.v)),(1,.ptr c 0 0 1),(2,.ptr S.length 0 0 1)]) s.decls[i].names.length _ ?_ ⟨0,by simp,by omega,F,hJ _ _ _ _ hj,hk.push _,nF,gp jX,rfl⟩ ?_
   .exact aN
   rintro j e U ⟨k,rfl,hki,F,hj,hk,nF,jX,rfl⟩;by_cases g:k<s.decls[i].names.length
   .simp[g,jb,ae,jX];refine uX (hyd _ _ (TB De.names h (y:=s.decls[i].names[k]) (by simp[g])) F _ hj hk) ?_;rintro v U' ⟨F',hk',⟨rfl,hj'⟩|⟨rfl,hd'⟩⟩
    .simp[bP k];refine⟨_,?_,_,?_,k+1,rfl,by omega,F',hj',hk.trans hk',hk'.off (aM jX) nF,hk'.k.at jX nF,rfl⟩
     .omega
     .exact aN
    .simp;exact aS rfl ⟨F',hk.trans hk',.inr hd'⟩
   .have:k=s.decls[i].names.length:=by omega
    subst this;simp;refine⟨F,?_,hk,nF,jX⟩;have:=TC De.names h;unfold qe at *;rw[this];exact hj
  rintro e U ⟨F,hj,hk,nF,jX,g11,g10,g9,g1,g2⟩;simp[g11,bP i];refine⟨_,?_,_,?_,i+1,rfl,by omega,F,hj,hk,nF,jX,rfl⟩
  .omega
  .repeat' first|exact af.fh _|refine af.dV (by simp[g10,g9,g1,g2]) ?_
 rintro e U ⟨F,hj,hk,nF,jX,g1,g2⟩;have hcU:=hcap _ _ _ hj;have T9:=hB _ _ _ hj;simp[g1,ae,hcU];refine aU (MZ s.body false U) ?_;rintro v U2 ⟨rfl,rfl⟩;simp;have hlen:(bM s.decls s.body).length=(qe s.decls).length+(bq s.body).length:=by rw[I8,cJ]
 have hUl:=hk.k.len;have hylt:=aM jX;refine QW (k:=187) (fs:=[]) (cs:=[.ptr U.length 0 0 1]) sM (NZ s.body hbs.1 hbs.2 U.length) rfl rfl rfl (by intro a ha;obtain⟨x,_,rfl⟩:=cE.1 ha;rfl) F
  (fun i F V=>J ((qe s.decls).length+i) F V/\V[U.length]?=some (.arr [.sl false (s.body.map Sm.v)] 1 1)/\V[S.length]?=some (.arr [.cj y] 1 1)/\Kg F0 S F V/\¬F S.length/\¬F U.length/\¬F (U.length+1)) (fun F V=>D F V/\Kg F0 S F V) (fun _ _ _=>False) ?_ ?_ ?_ ?_ ?_ ?_ ?_ ?_ ?_ ?_ ?_ ?_ ?_
 .rintro i F V ⟨h,_⟩;exact hB _ _ _ h
 .rintro i F V ⟨_,h,_⟩;exact h
 .rintro i F V ⟨a,b,c,d,n⟩ o;exact⟨hJ _ _ _ _ a,gp b,gp c,d.push _,n⟩
 .rintro F V ⟨a,d⟩ o;exact⟨hD _ _ _ a,d.push _⟩
 .rintro id F V h;exact h.elim
 .rintro i F V L o o' hL ⟨a,b,c,d,n⟩ hl;simp at hL;exact⟨rU _ _ _ _ _ _ oM a hl,gl b sM hl,gl c sM hl,d.set _ (.inr oM),n⟩
 .rintro F V L o o' hL ⟨a,d⟩ hl;simp at hL;exact⟨hDl _ _ _ _ _ oM a hl,d.set _ (.inr oM)⟩
 .rintro id F V L o o' hL h;exact h.elim
 .exact⟨hJ _ _ _ _ (hJ _ _ _ _ hj),by simp,gp (gp jX),(hk.push _).push _,nF,fun h=>by have:=T9 _ h;omega,fun h=>by have:=T9 _ h;omega⟩
 .rintro i av hav F V ⟨Gf,h1,h2,h3,nS,nU,nL⟩ hkk hl;have J6:=hav;unfold pg at J6;rw[dS]at J6;obtain⟨x,hx,rfl⟩:=dL.1 J6;generalize hke:af.keep _ _=ke at hl |-;have k2:ke.get 2=some (.ptr S.length 0 0 1):=by rw[<-hke];exact af.zc sM (by simp[g2])
  clear hke;simp at hl;simp[nT];refine E3 hl rfl ?_;have lV:=aM hl;have lF:=rU _ _ _ _ _ { st:=.busy,pend:=none,ps:=[31],bT:=(dR Tryz.f255 0).1,body:=(dR Tryz.f255 0).2,e:=ke,N:=36 } oM Gf hl;have Gk:=gl (i':={ st:=.busy,pend:=none,ps:=[31],bT:=(dR Tryz.f255 0).1,body:=(dR Tryz.f255 0).2,e:=ke,N:=36 }) h2 sM hl;have hcw:=gl (i':={ st:=.busy,pend:=none,ps:=[31],bT:=(dR Tryz.f255 0).1,body:=(dR Tryz.f255 0).2,e:=ke,N:=36 }) h1 sM hl;have hLw:(V.set (U.length+1) (.loop { st:=.busy,pend:=none,ps:=[31],bT:=(dR Tryz.f255 0).1,body:=(dR Tryz.f255 0).2,e:=ke,N:=36 }))[U.length+1]?=some (.loop _):=bJ lV;have hkw:Kg (fun x=>F x\/x=U.length+1) V (fun x=>F x\/x=U.length+1) (V.set (U.length+1) (.loop { st:=.busy,pend:=none,ps:=[31],bT:=(dR Tryz.f255 0).1,body:=(dR Tryz.f255 0).2,e:=ke,N:=36 })):=(Kg.refl _ _).set _ (.inl (.inr rfl));have ua:Kg F0 S F (V.set (U.length+1) (.loop { st:=.busy,pend:=none,ps:=[31],bT:=(dR Tryz.f255 0).1,body:=(dR Tryz.f255 0).2,e:=ke,N:=36 })):=h3.set _ (.inr oM);generalize V.set (U.length+1) _=W at lF Gk hcw hLw hkw ua |-;simp[k2,ae,Gk];refine uX (hyl i _ hav F W lF ua) ?_;rintro v X ⟨F',xk,⟨rfl,xj⟩|⟨rfl,xd⟩⟩
  .simp;have wJ:=xk.k.at hLw nL;exact He ⟨rfl,rfl⟩ wJ (hkw.trans (xk.with _ (aM hLw))) ⟨rU _ _ _ _ _ _ oM xj wJ,gl (xk.k.at hcw nU) sM wJ,gl (xk.k.at Gk nS) sM wJ,(ua.trans xk).set _ (.inr oM),xk.off (aM Gk) nS,xk.off (aM hcw) nU,xk.off (aM hLw) nL⟩
  .simp;have wJ:=xk.k.at hLw nL;exact qiU wJ (hkw.trans (xk.with _ (aM hLw))) ⟨hDl _ _ _ _ _ oM xd wJ,(ua.trans xk).set _ (.inr oM)⟩
 .rintro F V ⟨Gf,_,_,h3,_⟩ _;rw[DV]at Gf;simp;refine i9 rfl ⟨F,h3,.inl ?_⟩;rw[hlen];exact Gf
 .rintro F V ⟨hd,h3⟩ _;exact aS rfl ⟨F,h3,.inr hd⟩
 .rintro id F V h;exact h.elim
def I7(x:Bz):∀(l:List Bz) (s:bw) (n:Nat),binds (l++[x]) s n=(if((binds l s n).at x).isSome then binds l s n else binds l s n++[(x,n+((binds l s n).length-s.length))])/\s.length<=(binds l s n).length
 |[],s,n=>by simp only[eK,binds];exact⟨by simp,cq _⟩
 |y::l,s,n=>by
  simp only[cP,binds];split
  .exact I7 x l s n
  .obtain⟨h1,h2⟩:=I7 x l (s++[(y,n)]) (n+1);simp only[cJ,eE,kj]at h2;refine⟨?_,by omega⟩;rw[h1];split
   .rfl
   .rw[show n+1+((binds l (s++[(y,n)]) (n+1)).length-(s++[(y,n)]).length)=n+((binds l (s++[(y,n)]) (n+1)).length-s.length) by simp;omega]
def wc(x:Bz)(l:List Bz)(n:Nat):ah (l++[x]) n=if((ah l n).at x).isSome then ah l n else ah l n++[(x,n+(ah l n).length)]:=by
 have:=(I7 x l [] n).1;unfold ah;rw[this];simp only[kj,Nat.sub_zero]
def I2(n:Nat):∀(l:List Bz) (s:bw) (m:Nat),(binds l s m).length<=s.length+l.length
 |[],s,m=>by simp[binds]
 |x::l,s,m=>by
  simp only[binds];split
  .have:=I2 n l s m;simp only[eE];omega
  .have:=I2 n l (s++[(x,m)]) (m+1);simp only[cJ,eE,kj]at *;omega
def qbA(l:List Bz)(n:Nat):(ah l n).length<=l.length:=by
 have:=I2 0 l [] n;simp only[kj,iQ]at this;exact this
def E5(names:List Bz)(n:Nat):∀(k i:Nat),i+k=names.length->(ah (names.take i) n).length<=(ah names n).length
 |0,i,h=>by rw[iP oM];exact cq _
 |k+1,i,h=>by
  have h1:=E5 names n k (i+1) oM;have hlt:i<names.length:=by omega
  have hs:=wc names[i] (names.take i) n;rw[show names.take i++[names[i]]=names.take (i+1) by rw[cY,bI hlt];rfl]at hs
  have:(ah (names.take i) n).length<=(ah (names.take (i+1)) n).length:=by
   rw[hs];split
   .exact cq _
   .simp only[cJ];omega
  omega
theorem qmm(y:V):V.upd .bF 0 1 y=if y.size=1/\y.cells.all V.flat=true then some y else none:=rfl
def qgP{S:St}{lm:Nat}{t:cT}{bs:List Nat}{ck:Nat}(x:Bz)(v:V)(h:S[lm]?=some (.map (t.map oR) bs ck))(hx:mB t x=none):
  kE S .str (.map lm) (.str x) v=some (S.set lm (.map (t.map oR++[(.str x,v)]) (bs++[ck]) (ck+1))):=by
 obtain⟨j,hj⟩:=Lt x t 0;unfold kE;rw[ai (by rfl)];simp only[h,hj,hx];rfl
def zJ(n:Nat):List Nat:=List.range n
structure BJ(c:Cb)(w ci n B:Nat)(v:V)(co:Ob)(h:c.H)(F D:Np)(t:cT)(U:St):Prop where
 wk:Wk c w (n+t.length) (enters c.toPw h t.kK) F D U
 tc:U[ci]?=some co
 t0:U[B]?=some (.arr [.ptr w 0 0 1] 1 1)
 t1:U[B+1]?=some (.arr [.agg [v]] 1 1)
 t2:U[B+2]?=some (.map (t.map oR) (zJ t.length) t.length)
 t3:U[B+3]?=some (.arr [.agg [.ptr (B+1) 0 0 1,.map (B+2)]] 2 1)
 t4:U[B+4]?=some (.arr [.ptr (B+3) 0 0 1] 1 1)
 off:∀j,j<5->er w F D (B+j)
 CY:er w F D ci
 pl:∀e,e∈t->¬F e.2.2/\U[e.2.2]?=some (dZ e.1 e.2.1 (c.f e.2.1 e.1))
 ge:∀e,e∈t->B+6<=e.2.2
section
variable {c:Cb} (ok:c.Ok) {w ci n B:Nat} {v:V} {co:Ob} {h:c.H} {F D:Np} {t:cT} {U:St}
include ok
theorem BJ.push(b:BJ c w ci n B v co h F D t U)(o:Ob):BJ c w ci n B v co h F D t (U++[o]):=
 ⟨b.wk.push ok _,gp b.tc,gp b.t0,gp b.t1,gp b.t2,gp b.t3,gp b.t4,b.off,b.CY,fun e he=>⟨(b.pl e he).1,gp (b.pl e he).2⟩,b.ge⟩
theorem Wk.loop{n:Nat}{h:c.H}(k:Wk c w n h F D U){L:Nat}{i:LI}(o:Ob)(hL:U[L]?=some (.loop i)):Wk c w n h F D (U.set L o):=
 k.set ok o (by rintro rfl;have:=k.tw;rw[hL]at this;cases this) (ok.lp k.st L i hL).1 (ok.lp k.st L i hL).2
theorem BJ.loop(b:BJ c w ci n B v co h F D t U)(hco:∀i,co≠.loop i){L:Nat}{i i':LI}(hL:U[L]?=some (.loop i)):BJ c w ci n B v co h F D t (U.set L (.loop i')):=
 ⟨b.wk.loop ok _ hL,gl b.tc hco hL,gl b.t0 sM hL,gl b.t1 sM hL,gl b.t2 sM hL,gl b.t3 sM hL,gl b.t4 sM hL,b.off,b.CY,fun e he=>⟨(b.pl e he).1,gl (b.pl e he).2 (by simp[dZ]) hL⟩,b.ge⟩
def iT(c:Cb)(w n B:Nat)(x:Bz)(t:cT)(W:St):St:=
 ((W++[dZ x (n+t.length) x]).set w (nc c (n+t.length+1))).set (B+2) (.map (t.map oR++[(.str x,.ptr W.length 0 0 1)]) (zJ t.length++[t.length]) (t.length+1))
omit ok in
theorem Fe(x:Bz)(W:St):Kp (fun l=>l=w\/l=B+2) W (iT c w n B x t W):=by
 unfold iT;exact(((Kp.refl _ _).push _).set _ (.inl (.inl rfl))).set _ (.inl (.inr rfl))
omit ok in
theorem RJ(x:Bz)(W:St):(iT c w n B x t W).length=W.length+1:=by unfold iT;simp
omit ok in
theorem qbI(x:Bz){W:St}(hw:w<W.length)(hB:B+2<W.length):(iT c w n B x t W)[W.length]?=some (dZ x (n+t.length) x):=by
 unfold iT;rw[bC oM,bC oM];simp
theorem BJ.ready(b:BJ c w ci n B v co h F D t U)(x:Bz):c.I (enters c.toPw h t.kK) F D (iT c w n B x t U):=
 ok.fr b.wk.st (Fe x U) fun l hl _=>by
  rcases hl with rfl|rfl
  .exact⟨b.wk.nF,b.wk.nD⟩
  .exact⟨(b.off 2 oM).2.1,(b.off 2 oM).2.2⟩
theorem BJ.step(b:BJ c w ci n B v co h F D t U)(x:Bz)(hw:w<B)(hc:ci<B)(hB:B+6<=U.length){F' D':Np}{X:St}(hX:c.I (c.ent (enters c.toPw h t.kK) (n+t.length) x) F' D' X)
  (hp:X[U.length]?=some (dZ x (n+t.length) (c.f (n+t.length) x))) (hk:Kp (fun l=>l=U.length\/F l) (iT c w n B x t U) X) (gF:grow (iT c w n B x t U) F F') (gD:∀l,D' l->D l\/l=U.length\/(iT c w n B x t U).length<=l):
  BJ c w ci n B v co h F' D' (t++[(x,n+t.length,U.length)]) X/\(∀{F0 D0:Np} {S:St},S.length<=B->Stp w F0 D0 S F D U->Stp w F0 D0 S F' D' X):=by
 have hl:=RJ (c:=c) (w:=w) (n:=n) (B:=B) (t:=t) x U;have lt:∀l,F l\/D l->l<U.length:=ok.lt b.wk.st;have hs:=b.push ok (dZ x (n+t.length) x)
 have get:∀(l:Nat) (o:Ob),U[l]?=some o->l≠w->l≠B+2->¬F l->X[l]?=some o:=fun l o ho h1 h2 h3=>by
  have hlt:=(aT.1 ho).1;exact hk.at ((Fe x U).at ho (by rintro(rfl|rfl)<;>contradiction)) (by rintro(rfl|hf);omega;exact h3 hf)
 have nF:∀l,l<U.length->¬F l->¬F' l:=fun l h1 h2 h3=>(gF l h3).elim h2 oM
 have nD:∀l,l<U.length->¬D l->¬D' l:=fun l h1 h2 h3=>(gD l h3).elim h2 oM
 have VU:∀l,l<U.length->er w F D l->er w F' D' l:=fun l h1 h2=>⟨h2.1,nF l h1 h2.2.1,nD l h1 h2.2.2⟩
 have hsl:t.kK.length=t.length:=bu _;have Uw:cT.kK (t++[(x,n+t.length,U.length)])=t.kK++[(x,n+t.length)]:=cy;refine⟨⟨⟨?_,?_,nF w oM b.wk.nF,nD w oM b.wk.nD,?_⟩,get _ _ b.tc b.CY.1 oM b.CY.2.1,get _ _ b.t0 oM oM (b.off 0 oM).2.1,get _ _ b.t1 oM oM (b.off 1 oM).2.1,?_,get _ _ b.t3 oM oM (b.off 3 oM).2.1,get _ _ b.t4 oM oM (b.off 4 oM).2.1,fun j hj=>VU _ oM (b.off j hj),VU _ oM b.CY,?_,?_⟩,fun {F0 D0 S} hS s=>⟨⟨?_,fun l hl hn=>?_⟩,fun l hf=>(gF l hf).elim (s.gF l) (by have:=s.k.len;omega),fun l hf=>(gD l hf).elim (s.gD l) (by have:=s.k.len;omega)⟩⟩
 .have:(iT c w n B x t U)[w]?=some (nc c (n+t.length+1)):=by
   unfold iT;rw[bC oM,bJ (by simp;omega)]
  rw[hk.at this (by rintro(rfl|hf);omega;exact b.wk.nF hf)];simp[gj]
 .rw[Uw];unfold enters;rw[pG];exact hX
 .rw[Uw];unfold enters;rw[pG,cJ,<-gj];exact ok.ce x b.wk.cn
 .have:(iT c w n B x t U)[B+2]?=some (.map (t.map oR++[(.str x,.ptr U.length 0 0 1)]) (zJ t.length++[t.length]) (t.length+1)):=by
   unfold iT;rw[bJ (by simp;omega)]
  rw[hk.at this (by rintro(hh|hf);omega;exact(b.off 2 oM).2.1 hf)];simp[zJ,List.range_succ,oR]
 .intro e he;rcases cC.1 he with he|he
  .have h1:=b.ge e he;have h2:=aM (b.pl e he).2;exact⟨nF _ h2 (b.pl e he).1,get _ _ (b.pl e he).2 oM oM (b.pl e he).1⟩
  .simp at he;subst he;refine⟨fun hf=>(gF _ hf).elim (fun hh=>?_) (fun hh=>?_),hp⟩
   .have:=lt _ (.inl hh);simp at this
   .simp only at hh;omega
 .intro e he;rcases cC.1 he with he|he
  .exact b.ge e he
  .simp at he;subst he;exact hB
 .have:=s.k.len;have:=hk.len;omega
 .have h1:=s.k.len;have h2:¬F l:=fun hf=>hn (.inr ((s.gF l hf).resolve_right oM))
  rw[hk.get l oM (by rintro(rfl|hf);omega;exact h2 hf),(Fe x U).get l oM (by rintro(rfl|rfl);exact hn (.inl rfl);omega)];exact s.k.get l hl hn
end
def N4(c:Cb)(w n:Nat)(h:c.H)(F D Y:Np)(ts:List cT)(s:bw)(S:St)(r:V)(U:St):Prop:=
 ∃(t:cT) (F' D':Np),t.kK=s/\Wk c w (n+t.length) (enters c.toPw h s) F' D' U/\Stp w F D S F' D' U/\cS c.toPw (fun l=>l=w\/F' l\/Y l) U r (t::ts)
def qaB(c:Cb)(w ci n:Nat)(v:V)(co:Ob)(h:c.H)(F D:Np)(names:List Bz)(S:St)(i:Nat)(G:Np)(U:St):Prop:=
 ∃(t:cT) (F' D':Np),G=(fun x=>x=w\/x=S.length+2\/F' x)/\t.kK=ah (names.take i) n/\BJ c w ci n S.length v co h F' D' t U/\Stp w F D S F' D' U
def HA(c:Cb)(ok:c.Ok)(w n:Nat)(h:c.H)(F D:Np)(v:V)(ts:List cT)(names:List Bz)(g:Nat)(cs:List V)(ci:Nat)(co:Ob)(hy:AZ prog g [] cs (pg names) (fun U=>U[ci]?=some co))(hco:∀i,co≠.loop i)(S:St)
  (hk:Wk c w n h F D S) (Y:Np) (hY:∀l,Y l->l<S.length) (hsc:cS c.toPw (fun l=>l=w\/F l\/Y l) S v ts) (hc:S[ci]?=some co) (hoc:er w F D ci) (hn:n+(ah names n).length<=c.lim):
  au prog 157 [.ptr w 0 0 1,v,.fn (.func g) [] cs] S (fun r U=>N4 c w n h F D Y ts (ah names n) S r U):=by
 refine au.ib ⟨_,func157,ok157⟩ ?_;have lw:=aM hk.tw;have lc:=aM hc
 obtain⟨BW,hvf⟩:v.cells=[v]/\v.flat=true:=by
  cases ts with
  |nil=>have h':v=.bF:=hsc;subst h';exact⟨rfl,rfl⟩
  |cons t r=>obtain⟨l,_,_,_,_,_,rfl,_⟩:=hsc;exact⟨rfl,rfl⟩
 have hvs:v.size=1:=by show v.cells.length=1;rw[BW];rfl
 simp[c157,aC,ae,aA,aE,qmm,bj,bz,aZ,BW,hvf,hvs];obtain⟨B1,hB1⟩:∃B1:St,S++[.arr [.ptr w 0 0 1] 1 1,.arr [.agg [v]] 1 1,.map [] [] 0,.arr [.agg [.ptr (S.length+1) 0 0 1,.map (S.length+2)]] 2 1,.arr [.ptr (S.length+3) 0 0 1] 1 1]=B1:=⟨_,rfl⟩
 have hb:∀(j:Nat) (o:Ob),[Ob.arr [.ptr w 0 0 1] 1 1,.arr [.agg [v]] 1 1,.map [] [] 0,.arr [.agg [.ptr (S.length+1) 0 0 1,.map (S.length+2)]] 2 1,.arr [.ptr (S.length+3) 0 0 1] 1 1][j]?=some o->B1[S.length+j]?=some o:=fun j o h=>by
  rw[<-hB1,bK oM,vS];exact h
 have lB:B1.length=S.length+5:=by rw[<-hB1];simp
 have kB:Stp w F D S F D B1:=by rw[<-hB1];exact(Stp.refl _ _ _ _).push _
 have bj0:BJ c w ci n S.length v co h F D [] B1:=⟨by rw[<-hB1];exact hk.push ok _,by rw[<-hB1,b8 lc];exact hc,hb 0 _ rfl,hb 1 _ rfl,hb 2 _ rfl,hb 3 _ rfl,hb 4 _ rfl,fun j _=>hk.out ok oM,hoc,fun e he=>by simp at he,fun e he=>by simp at he⟩;rw[hB1];clear hb hB1;refine QW (k:=g) (fs:=[]) (cs:=cs) sM hy rfl rfl rfl (by intro a ha;obtain⟨x,_,rfl⟩:=cE.1 ha;rfl) (fun x=>x=w\/x=S.length+2\/F x)
  (qaB c w ci n v co h F D names S) (fun _ _=>False) (fun _ _ _=>False) ?_ ?_ ?_ ?_ ?_ ?_ ?_ ?_ ?_ ?_ ?_ ?_ ?_
 .rintro i G U ⟨t,F',D',rfl,_,h,_⟩ x (rfl|rfl|hx)
  .exact aM h.wk.tw
  .exact aM h.t2
  .exact ok.lt h.wk.st x (.inl hx)
 .rintro i G U ⟨t,F',D',_,_,h,_⟩;exact h.tc
 .rintro i G U ⟨t,F',D',h0,h1,h,hk⟩ o;exact⟨t,F',D',h0,h1,h.push ok o,hk.push _⟩
 .rintro G U h;exact h.elim
 .rintro id G U h;exact h.elim
 .rintro i G U L o o' hL ⟨t,F',D',h0,h1,h,hk⟩ hl;exact⟨t,F',D',h0,h1,h.loop ok hco hl,hk.set _ oM⟩
 .rintro G U L o o' hL h;exact h.elim
 .rintro id G U L o o' hL h;exact h.elim
 .exact⟨[],F,D,rfl,rfl,bj0.push ok _,kB.push _⟩
 .rintro i av hav G U ⟨t,F1,D1,rfl,ht,hj,BU⟩ hk1 hl;unfold pg at hav;rw[dS]at hav;obtain⟨x,hx,rfl⟩:=dL.1 hav;have hnext:=wc x (names.take i) n;have hte:names.take i++[x]=names.take (i+1):=by rw[cY,hx];rfl
  rw[hte,<-ht,Ln]at hnext;have hsl:t.kK.length=t.length:=bu _
  have htl:t.length<=(ah names n).length:=by
   have h1:=E5 names n (names.length-i) i (by have:=(aT.1 hx).1;omega);rw[<-ht,hsl]at h1;exact h1
  generalize hke:af.keep _ _=ke at hl |-;have k3:ke.get 3=some (.ptr S.length 0 0 1):=by rw[<-hke];exact af.zc sM sM
  have k7:ke.get 7=some (.ptr (S.length+4) 0 0 1):=by rw[<-hke];exact af.zc sM sM
  clear hke;simp[nT];refine E3 hl rfl ?_;have lV:=aM hl;obtain⟨li,rX⟩:∃li:LI,li={ st:=.busy,pend:=none,ps:=[19],bT:=(dR Tryz.f157 0).fst,body:=(dR Tryz.f157 0).snd,e:=ke,N:=63 }:=⟨_,rfl⟩;show WP _ _ _ _ (U.set B1.length (.loop { st:=.busy,pend:=none,ps:=[19],bT:=(dR Tryz.f157 0).fst,body:=(dR Tryz.f157 0).snd,e:=ke,N:=63 }));rw[<-rX];have lF:=hj.loop ok hco hl (i':=li);have hLw:(U.set B1.length (.loop li))[B1.length]?=some (.loop li):=bJ lV;have hLo:=hj.wk.loop ok (o:=.loop li) hl;have hoL:er w F1 D1 B1.length:=⟨by omega,(ok.lp hj.wk.st _ _ hl).1,(ok.lp hj.wk.st _ _ hl).2⟩;have ua:Stp w F D S F1 D1 (U.set B1.length (.loop li)):=BU.set _ oM;have lW:(U.set B1.length (.loop li)).length=U.length:=by simp
  have hkw:Kg (fun x=>(x=w\/x=S.length+2\/F1 x)\/x=B1.length) U (fun x=>(x=w\/x=S.length+2\/F1 x)\/x=B1.length) (U.set B1.length (.loop li)):=(Kg.refl _ _).set _ (.inl (.inr rfl));generalize U.set B1.length (.loop li)=W at lF hLw ua lW hkw |-;clear hLo;have hlk:=Vm x lF.t2;simp[k3,k7,cF,ae,lF.t4,lF.t3,aZ,hlk]
  cases hlo:mB t x with
  |some p=>
   rw[hlo]at hnext;simp only[dM,Option.isSome_some,if_true]at hnext;simp;subst rX;exact He ⟨rfl,rfl⟩ hLw hkw ⟨t,F1,D1,rfl,hnext.symm,lF.loop ok hco hLw,ua.set _ oM⟩
  |none=>
   rw[hlo]at hnext;simp only[Option.map_none,EN,iz,if_false,hsl]at hnext;have hw0:=lF.wk.tw;unfold nc at hw0;simp[k3,k7,cF,ae,lF.t0,hw0,aA,bj,bz,aZ,aE,aC];have hs1:=lF.push ok (dZ x (n+t.length) x);have hme:=qgP x (.ptr W.length 0 0 1) (lm:=S.length+2) (S:=(W++[dZ x (n+t.length) x]).set w (nc c (n+t.length+1))) (by rw[bC oM];exact hs1.t2) hlo;have Gi:=hs1.wk.tw;have p0:=hs1.t0;have p4:=hs1.t4;have p3:=hs1.t3;have hbs:iT c w n S.length x t W=((W++[dZ x (n+t.length) x]).set w (nc c (n+t.length+1))).set (S.length+2) (.map (t.map oR++[(.str x,.ptr W.length 0 0 1)]) (zJ t.length++[t.length]) (t.length+1)):=rfl;unfold nc dZ at Gi hme hbs;unfold dZ at p0 p3 p4;push_cast at Gi hme hbs p0 p3 p4;generalize hW1:W++[Ob.arr [.agg [.int .i64 ((n:Int)+(t.length:Int)),.str x,.str x]] 3 1]=W1 at Gi hme hbs p0 p3 p4 |-;have lW1:W1.length=W.length+1:=by rw[<-hW1];simp
   have hL:=ok.lim
   have qnr:t.length+1<=(ah names n).length:=by
    have h1:=E5 names n (names.length-(i+1)) (i+1) (by have:=(aT.1 hx).1;omega);rw[hnext,cJ,hsl]at h1;exact h1
   have i1:=dP (n:=(n:Int)+(t.length:Int)+1) oM oM;obtain⟨wo,hwo⟩:∃wo,wo=Ob.arr [V.agg [V.int IntKind.i64 (↑n+↑t.length+1),c.fe,c.fn,c.fc]] 4 1:=⟨_,rfl⟩;have e0:(W1.set w wo)[S.length]?=some (.arr [.ptr w 0 0 1] 1 1):=by rw[bC oM];exact p0
   have e3:(W1.set w wo)[S.length+3]?=some (.arr [.agg [.ptr (S.length+1) 0 0 1,.map (S.length+2)]] 2 1):=by rw[bC oM];exact p3
   have e4:(W1.set w wo)[S.length+4]?=some (.arr [.ptr (S.length+3) 0 0 1] 1 1):=by rw[bC oM];exact p4
   have ew:(W1.set w wo)[w]?=some wo:=bJ oM;simp[k3,k7,cF,ae,p0,Gi,aA,aE,i1];rw[<-hwo]at hme hbs |-;generalize W1.set w wo=W2 at e0 e3 e4 ew hme hbs |-;subst hwo;simp[k3,k7,cF,ae,e4,e3,aZ,hme];rw[<-hbs];have hbl:=RJ (c:=c) (w:=w) (n:=n) (B:=S.length) (t:=t) x W;have kb:=Fe (c:=c) (w:=w) (n:=n) (B:=S.length) (t:=t) x W;have g0:(iT c w n S.length x t W)[S.length]?=some (.arr [.ptr w 0 0 1] 1 1):=by rw[hbs,bC oM];exact e0
   have gw:(iT c w n S.length x t W)[w]?=some (Ob.arr [V.agg [V.int IntKind.i64 (↑n+↑t.length+1),c.fe,c.fn,c.fc]] 4 1):=by rw[hbs,bC oM];exact ew
   have gL:(iT c w n S.length x t W)[B1.length]?=some (.loop li):=kb.at hLw oM;have JS:=qbI (c:=c) (w:=w) (n:=n) (B:=S.length) (t:=t) x (W:=W) oM oM;have gI:=lF.ready ok x;have kk:Kp (fun x=>(x=w\/x=S.length+2\/F1 x)\/x=B1.length) U (iT c w n S.length x t W):=hkw.k.trans (kb.mono fun l _ h=>.inl (h.imp id .inl));clear hbs hme e3 e4;have z0:=e0;clear e0;have fin:∀(F2 D2:Np) (X:St),c.I (c.ent (enters c.toPw h t.kK) (n+t.length) x) F2 D2 X->X[W.length]?=some (dZ x (n+t.length) (c.f (n+t.length) x))->Kp (fun l=>l=W.length\/F1 l) (iT c w n S.length x t W) X->grow (iT c w n S.length x t W) F1 F2->(∀l,D2 l->D1 l\/l=W.length\/(iT c w n S.length x t W).length<=l)->
     ∃(t':cT) (F' D':Np),X[B1.length]?=some (.loop li)/\Kg (fun x=>(x=w\/x=S.length+2\/F1 x)\/x=B1.length) U (fun x=>(x=w\/x=S.length+2\/F' x)\/x=B1.length) X/\t'.kK=ah (names.take (i+1)) n/\BJ c w ci n S.length v co h F' D' t' X/\Stp w F D S F' D' X:=fun F2 D2 X hX hp hkX gF gD=>by
    obtain⟨q1,q2⟩:=lF.step ok x lw lc oM hX hp hkX gF gD;refine⟨_,F2,D2,hkX.at gL (by rintro(hh|hh);omega;exact hoL.2.1 hh),⟨⟨fL kk.len hkX.len,fun l hl hn=>?_⟩,fun l hl=>?_⟩,by rw[hnext];exact cy,q1,q2 bL ua⟩
    ·rw[hkX.get l oM (by
      rintro(hh|hh)
      .omega
      .exact hn (.inl (.inr (.inr hh))))]
     exact kk.get l hl hn
    .rcases hl with (hl|hl|hl)|hl
     .exact .inl (.inl (.inl hl))
     .exact .inl (.inl (.inr (.inl hl)))
     .exact(gF l hl).imp (fun a=>.inl (.inr (.inr a))) fun a=>by omega
     .exact .inl (.inr hl)
   generalize iT c w n S.length x t W=W3 at g0 gw gL JS gI kk fin hbl |-;rcases ok.en with ⟨e0,e1,e2⟩|⟨ge,ces,e0,hfs⟩
   .simp[k3,k7,cF,ae,g0,gw,z0,ew,e0,eh,dN];obtain⟨t',F',D',f1,f2,f3,f4,f5⟩:=fin F1 D1 W3 (by rw[e2];exact gI) (by rw[e1];exact JS) (Kp.refl _ _) (grow.refl _ _) (fun l hl=>.inl hl);subst rX;exact He ⟨rfl,rfl⟩ f1 f2 ⟨t',F',D',rfl,f3,f4.loop ok hco f1,f5.set _ oM⟩
   .simp[k3,k7,cF,ae,g0,gw,z0,ew,e0,eh,dN];refine aU (hfs W3 W.length (n+t.length) x _ F1 D1 JS (fun hf=>by have:=ok.lt lF.wk.st _ (.inl hf);omega) (fun hf=>by have:=ok.lt lF.wk.st _ (.inr hf);omega) oM lF.wk.cn gI) ?_;rintro r X ⟨F2,D2,hX,hp,hkX,gF,gD⟩;simp;obtain⟨t',F',D',f1,f2,f3,f4,f5⟩:=fin F2 D2 X hX hp hkX gF gD;subst rX;exact He ⟨rfl,rfl⟩ f1 f2 ⟨t',F',D',rfl,f3,f4.loop ok hco f1,f5.set _ oM⟩
 .rintro G U ⟨t,F',D',rfl,ht,hj,BU⟩ hk;rw[DV,eR]at ht;simp[ae,hj.t4];refine aS rfl ⟨t,F',D',ht,by rw[<-ht];exact hj.wk,BU,S.length+3,S.length+1,S.length+2,v,_,_,rfl,⟨?_,?_,?_⟩,hj.t3,hj.t1,hj.t2,fun e he=>⟨?_,(hj.pl e he).2⟩,hsc.mono (BU.k.mono fun l _ hh=>hh.imp id .inl) fun l hh=>?_⟩
  .rintro(hh|hh|hh)
   .omega
   .exact(hj.off 3 oM).2.1 hh
   .have:=hY _ hh;omega
  .rintro(hh|hh|hh)
   .omega
   .exact(hj.off 1 oM).2.1 hh
   .have:=hY _ hh;omega
  .rintro(hh|hh|hh)
   .omega
   .exact(hj.off 2 oM).2.1 hh
   .have:=hY _ hh;omega
  .have:=hj.ge e he;rintro(hh|hh|hh)
   .omega
   .exact(hj.pl e he).1 hh
   .have:=hY _ hh;omega
  .rcases hh with hh|hh|hh
   .exact .inl (.inl hh)
   .exact(BU.gF l hh).imp (fun a=>.inr (.inl a)) id
   .exact .inl (.inr (.inr hh))
 .rintro G U h;exact h.elim
 .rintro id G U h;exact h.elim
structure Rp where
 fresh:List Bz
 mj:List Bz
 to:List Ex
structure bp where
 free:List Bz
 bad:Bool
 caught:Bool
def ag.flat:ag->bw
 |[]=>[]
 |s::r=>ag.flat r++s
def mU:List Bz->List Ex->Bz->Option Ex
 |f::fs,e::es,x=>if f=x then some e else mU fs es x
 |_,_,_=>none
def mt(r:Rp)(x:Bz):Option Ex:=mU r.mj r.to x
def cN(r:Rp)(sc:ag)(x:Bz):Bz:=match sc.at x with
 |some k=>(r.fresh[k]?).getD x
 |none=>x
def jx(r:Rp)(sc:ag)(x:Bz)(st:bp):bp:=match sc.at x with
 |some _=>st
 | none=>{ free:=st.free++[x],bad:=st.bad,caught:=st.caught || (match mt r x with
  |some e=>decide (e.kind=6)&&(ag.flat sc).any fun p=>decide (p.1=e.text)
  |none=>false) }
def jZ(r:Rp)(sc:ag)(x:Bz):Option Ex:=match sc.at x with
 |some _=>none
 |none=>mt r x
def j0(r:Rp)(sc:ag)(x:Bz):Bz:=match jZ r sc x with
 |some e=>if e.kind=6 then e.text else x
 |none=>cN r sc x
def jl(r:Rp)(sc:ag)(x:Bz)(st:bp):bp:={ jx r sc x st with bad:=(jx r sc x st).bad || (match jZ r sc x with
 |some e=>!decide (e.kind=6)
 |none=>false) }
mutual
def Ex.rw(r:Rp)(sc:ag):Ex->Ex
 | .mk k o n m e t a=>if k=6 then (match jZ r sc t with
   |some x=>x
   |none=>.mk 6 0 0 0 0 (cN r sc t) [])
  else .mk k o n m e (if k=7\/k=8 then j0 r sc t else t) (Ex.bk r sc a)
def Ex.bk(r:Rp)(sc:ag):List Ex->List Ex
 |[]=>[]
 |x::l=>Ex.rw r sc x::Ex.bk r sc l
end
def Ex.Dx(r:Rp)(sc:ag):∀l,Ex.bk r sc l=l.map (Ex.rw r sc)
 |[]=>rfl
 |x::l=>by rw[Ex.bk,Ex.Dx r sc l];rfl
mutual
def Ex.rs(r:Rp)(sc:ag)(st:bp):Ex->bp
 |.mk k _ _ _ _ t a=>if k=6 then jx r sc t st else Ex.aP r sc (if k=7\/k=8 then jl r sc t st else st) a
def Ex.aP(r:Rp)(sc:ag)(st:bp):List Ex->bp
 |[]=>st
 |x::l=>Ex.aP r sc (Ex.rs r sc st x) l
end
def Ex.ri(r:Rp)(sc:ag):∀(l m:List Ex) (st:bp),Ex.aP r sc st (l++m)=Ex.aP r sc (Ex.aP r sc st l) m
 |[],m,h=>rfl
 |x::l,m,h=>by simp only[cP,Ex.aP];exact Ex.ri r sc l m _
def j8(l:List Ex):Bool:=l.any fun x=>decide (x.kind≠6)&&decide (x.kind≠7)
def El.rw(r:Rp)(sc:ag)(e:El):El:=⟨e.kind,Ex.bk r sc e.ak⟩
def El.aP(r:Rp)(sc:ag)(st:bp)(l:List El):bp:=l.foldl (fun st e=>Ex.aP r sc st e.ak) st
def Fo.rw(r:Rp)(sc:ag)(x:Fo):Fo:=⟨cN r sc x.name,x.value,x.spec,x.type⟩
def qq(r:Rp)(sc:ag)(st:bp)(l:List Ex):bp:={ Ex.aP r sc st l with bad:=(Ex.aP r sc st l).bad||j8 (Ex.bk r sc l) }
mutual
def Sm.rw(r:Rp)(sc:ag)(n:Nat):Sm->Sm
 |.mk l k t g e h d b=>
  if k=7 then
   .mk (l.map (cN r sc)) k t g e h (De.bk r (ah (bM d b) n::sc) sc (n+(ah (bM d b) n).length) d) (Sm.bk r (ah (bM d b) n::sc) (n+(ah (bM d b) n).length+De.aJ d) b)
  else if k=8 then
   .mk (l.map (cN r sc)) k t g e h d (Sm.bk r (ah (bq b) n::sc) (n+(ah (bq b) n).length) b)
  else .mk (l.map (cN r sc)) k (if k=6 then j0 r sc t else t) (Ex.bk r sc g) (Ex.bk r sc e) (h.map (El.rw r sc)) d (Sm.fY r sc n b)
def De.rw(r:Rp)(own sc:ag)(n:Nat):De->De
 |.mk k o t nm e fo b=>
  if k=4 then .mk k o t (nm.map (cN r own)) (Ex.bk r own e) (fo.map (Fo.rw r (ah (fo.map Fo.name) n::own))) (Sm.fY r (ah (fo.map Fo.name) n::own) (n+(ah (fo.map Fo.name) n).length) b)
  else .mk k o t (nm.map (cN r own)) (Ex.bk r (if k=2 then sc else own) e) fo b
def De.bk(r:Rp)(own sc:ag)(n:Nat):List De->List De
 |[]=>[]
 |x::l=>De.rw r own sc n x::De.bk r own sc (n+De.nb x) l
def Sm.bk(r:Rp)(sc:ag)(n:Nat):List Sm->List Sm
 |[]=>[]
 |x::l=>Sm.rw r sc n x::Sm.bk r sc (n+Sm.nb x) l
def Sm.fY(r:Rp)(sc:ag)(n:Nat):List Sm->List Sm
 |[]=>[]
 |x::l=>Sm.rw r (ah x.labels n::sc) (n+(ah x.labels n).length) x::Sm.fY r sc (n+(ah x.labels n).length+Sm.nb x) l
end
mutual
def Sm.rs(r:Rp)(sc:ag)(n:Nat)(st:bp):Sm->bp
 |.mk _ k t g e h d b=>
  if k=7 then Sm.aP r (ah (bM d b) n::sc) (n+(ah (bM d b) n).length+De.aJ d) (De.aP r (ah (bM d b) n::sc) sc (n+(ah (bM d b) n).length) st d) b
  else if k=8 then Sm.aP r (ah (bq b) n::sc) (n+(ah (bq b) n).length) st b
  else Sm.ip r sc n (Ex.aP r sc (El.aP r sc (qq r sc (if k=6 then jl r sc t st else st) g) h) e) b
def De.rs(r:Rp)(own sc:ag)(n:Nat)(st:bp):De->bp
 |.mk k _ _ _ e fo b=>
  if k=4 then Sm.ip r (ah (fo.map Fo.name) n::own) (n+(ah (fo.map Fo.name) n).length) (Ex.aP r own st e) b
  else Ex.aP r (if k=2 then sc else own) st e
def De.aP(r:Rp)(own sc:ag)(n:Nat)(st:bp):List De->bp
 |[]=>st
 |x::l=>De.aP r own sc (n+De.nb x) (De.rs r own sc n st x) l
def Sm.aP(r:Rp)(sc:ag)(n:Nat)(st:bp):List Sm->bp
 |[]=>st
 |x::l=>Sm.aP r sc (n+Sm.nb x) (Sm.rs r sc n st x) l
def Sm.ip(r:Rp)(sc:ag)(n:Nat)(st:bp):List Sm->bp
 |[]=>st
 |x::l=>Sm.ip r sc (n+(ah x.labels n).length+Sm.nb x) (Sm.rs r (ah x.labels n::sc) (n+(ah x.labels n).length) st x) l
end
def bY(l:List Bz):List Bz:=(ah l 0).map (·.1)
mutual
def Sm.bn:Sm->List Bz
 |.mk _ k _ _ _ _ d b=>if k=7 then bY (bM d b)++De.bS d++Sm.bS b else if k=8 then bY (bq b)++Sm.bS b else Sm.eS b
def De.bn:De->List Bz
 |.mk k _ _ _ _ f b=>if k=4 then bY (f.map Fo.name)++Sm.eS b else []
def De.bS:List De->List Bz
 |[]=>[]
 |x::l=>De.bn x++De.bS l
def Sm.bS:List Sm->List Bz
 |[]=>[]
 |x::l=>Sm.bn x++Sm.bS l
def Sm.eS:List Sm->List Bz
 |[]=>[]
 |x::l=>bY x.labels++Sm.bn x++Sm.eS l
end
def iW(l:List Bz):(bY l).length=(ah l 0).length:=bu _
mutual
theorem Sm.jR:∀s:Sm,s.bn.length=s.nb
 |.mk _ k _ _ _ _ d b=>by
  simp only[Sm.bn,Sm.nb];split
  .rw[cJ,cJ,iW,De.ny d,Sm.ny b]
  .split
   .rw[cJ,iW,Sm.ny b]
   .exact Sm.Fa b
theorem De.jR:∀s:De,s.bn.length=s.nb
 |.mk k _ _ _ _ f b=>by
  simp only[De.bn,De.nb];split
  .rw[cJ,iW,Sm.Fa b]
  .rfl
theorem De.ny:∀s:List De,(De.bS s).length=De.aJ s
 |[]=>rfl
 |x::l=>by simp only[De.bS,De.aJ,cJ,De.jR x,De.ny l]
theorem Sm.ny:∀s:List Sm,(Sm.bS s).length=Sm.aJ s
 |[]=>rfl
 |x::l=>by simp only[Sm.bS,Sm.aJ,cJ,Sm.jR x,Sm.ny l]
theorem Sm.Fa:∀s:List Sm,(Sm.eS s).length=Sm.aX s
 |[]=>rfl
 |x::l=>by simp only[Sm.eS,Sm.aX,cJ,iW,Sm.jR x,Sm.Fa l]
end
def Sm.Ba:∀(l m:List Sm),Sm.bS (l++m)=Sm.bS l++Sm.bS m
 |[],m=>rfl
 |x::l,m=>by simp only[cP,Sm.bS,Sm.Ba l m,cO]
def De.Ba:∀(l m:List De),De.bS (l++m)=De.bS l++De.bS m
 |[],m=>rfl
 |x::l,m=>by simp only[cP,De.bS,De.Ba l m,cO]
def Sm.RE:∀(l m:List Sm),Sm.eS (l++m)=Sm.eS l++Sm.eS m
 |[],m=>rfl
 |x::l,m=>by simp only[cP,Sm.eS,Sm.RE l m,cO]
def Sm.Dw(p:Rp)(sc:ag):∀(l m:List Sm) (n:Nat),Sm.bk p sc n (l++m)=Sm.bk p sc n l++Sm.bk p sc (n+Sm.aJ l) m
 |[],m,n=>by simp[Sm.bk,Sm.aJ]
 |x::l,m,n=>by simp only[cP,Sm.bk,Sm.aJ,Sm.Dw p sc l m,gj]
def De.Dw(p:Rp)(own sc:ag):∀(l m:List De) (n:Nat),De.bk p own sc n (l++m)=De.bk p own sc n l++De.bk p own sc (n+De.aJ l) m
 |[],m,n=>by simp[De.bk,De.aJ]
 |x::l,m,n=>by simp only[cP,De.bk,De.aJ,De.Dw p own sc l m,gj]
def Sm.YH(p:Rp)(sc:ag):∀(l m:List Sm) (n:Nat),Sm.fY p sc n (l++m)=Sm.fY p sc n l++Sm.fY p sc (n+Sm.aX l) m
 |[],m,n=>by simp[Sm.fY,Sm.aX]
 |x::l,m,n=>by
  have:=iR x.labels n 0;simp only[cP,Sm.fY,Sm.aX,Sm.YH p sc l m,this,gj]
def Sm.ri(p:Rp)(sc:ag):∀(l m:List Sm) (n:Nat) (h:bp),Sm.aP p sc n h (l++m)=Sm.aP p sc (n+Sm.aJ l) (Sm.aP p sc n h l) m
 |[],m,n,h=>by simp[Sm.aP,Sm.aJ]
 |x::l,m,n,h=>by simp only[cP,Sm.aP,Sm.aJ,Sm.ri p sc l m,gj]
def De.ri(p:Rp)(own sc:ag):∀(l m:List De) (n:Nat) (h:bp),De.aP p own sc n h (l++m)=De.aP p own sc (n+De.aJ l) (De.aP p own sc n h l) m
 |[],m,n,h=>by simp[De.aP,De.aJ]
 |x::l,m,n,h=>by simp only[cP,De.aP,De.aJ,De.ri p own sc l m,gj]
def Sm.Yx(p:Rp)(sc:ag):∀(l m:List Sm) (n:Nat) (h:bp),Sm.ip p sc n h (l++m)=Sm.ip p sc (n+Sm.aX l) (Sm.ip p sc n h l) m
 |[],m,n,h=>by simp[Sm.ip,Sm.aX]
 |x::l,m,n,h=>by
  have:=iR x.labels n 0;simp only[cP,Sm.ip,Sm.aX,Sm.Yx p sc l m,this,gj]
def YK(p:Rp)(sc:ag):∀(m:List Sm) (n:Nat),(Sm.bk p sc n m).length=m.length
 |[],_=>rfl
 |x::m,n=>by simp only[Sm.bk,eE,YK p sc m]
def YI(p:Rp)(sc:ag):∀(m:List Sm) (n:Nat),(Sm.fY p sc n m).length=m.length
 |[],_=>rfl
 |x::m,n=>by simp only[Sm.fY,eE,YI p sc m]
def YJ(p:Rp)(own sc:ag):∀(m:List De) (n:Nat),(De.bk p own sc n m).length=m.length
 |[],_=>rfl
 |x::m,n=>by simp only[De.bk,eE,YJ p own sc m]
def Sm.ti(r:Rp)(s:Sm):Sm:=s.rw r [ah s.labels 0] (ah s.labels 0).length
structure eU(p:Pw)(Q:List Bz->p.H->Prop):Prop where
 e:∀{l h} x,Q l h->Q (l++[x]) (p.ent h l.length x)
 n:∀{l h} x sc tg,Q l h->Q l (p.oZ h x sc tg)
 c:∀{l h} x sc,Q l h->Q l (p.lC h x sc)
def qc0(p:Pw)(h:p.H)(s:bw)(e:Bz×Nat):enters p h (s++[e])=p.ent (enters p h s) e.2 e.1:=by unfold enters;rw[pG];rfl
def VL(x:Bz)(l:List Bz):bY (l++[x])=if((ah l 0).at x).isSome then bY l else bY l++[x]:=by
 unfold bY;rw[wc];split<;>simp
def I1(x:Bz)(n:Nat):∀(k:Nat) (l:List Bz),l.length<=k->((ah l n).at x).isSome=((ah l 0).at x).isSome
 |_,[],_=>rfl
 |0,_::_,h=>by simp at h
 |k+1,y::l',h=>by
  obtain⟨l,z,hl⟩:∃l z,y::l'=l++[z]:=⟨(y::l').dropLast,(y::l').getLast sM,(Ip _).symm⟩;rw[hl]at h |-;have hk:l.length<=k:=by simp at h;exact h
  rw[wc,wc,I1 z n k l hk];have ih:=I1 x n k l hk;split
  .exact ih
  .unfold bw.at at *;rw[qB,qB];cases h1:List.find? (fun e=>decide (e.1=x)) (ah l n)<;>cases h2:List.find? (fun e=>decide (e.1=x)) (ah l 0)<;>simp[h1,h2]at ih |-;split<;>rfl
section
variable {p:Pw} {Q:List Bz->p.H->Prop} (i:eU p Q)
include i
theorem eU.enters{l:List Bz}{h:p.H}(hq:Q l h):∀(k:Nat) (a:List Bz),a.length<=k->Q (l++bY a) (enters p h (ah a l.length))
 |_,[],_=>by simpa[bY,ah,binds,Go.Proofs.YtbifpocccfkhhaaGreatDoor.enters]using hq
 |0,_::_,h=>by simp at h
 |k+1,y::l',hk=>by
  obtain⟨a,z,hl⟩:∃a z,y::l'=a++[z]:=⟨(y::l').dropLast,(y::l').getLast sM,(Ip _).symm⟩;rw[hl]at hk |-;have hk:a.length<=k:=by simp at hk;exact hk
  have ih:=eU.enters hq k a hk;rw[wc,VL,I1 z l.length k a hk];split
  .exact ih
  .rw[qc0,<-cO];have h2:(l++bY a).length=l.length+(ah a l.length).length:=by rw[cJ,iW,iR a l.length 0]
   have h3:=i.e z ih;rw[h2]at h3;exact h3
theorem eU.mD{l:List Bz}{h:p.H}(sc:ag)(tg:Bool)(x:Ex)(hq:Q l h):Q l (p.mD sc tg h x):=by
 unfold Pw.mD;split
 .split
  .exact hq
  .exact i.n _ _ _ hq
 .exact hq
theorem eU.mf{l:List Bz}{h:p.H}(sc:ag)(k:Int)(t:Bz)(hq:Q l h):Q l (p.mf sc k h t):=by
 unfold Pw.mf;split
 .split
  .exact hq
  .exact i.c _ _ hq
 .exact hq
mutual
theorem eU.ex{l:List Bz}(sc:ag)(tg:Bool):∀(x:Ex) {h:p.H},Q l h->Q l (x.hs p sc tg h)
 |.mk k o n m e t a,h,hq=>by simp only[Ex.hs];exact i.mD _ _ _ (eU.qK sc false a hq)
theorem eU.qK{l:List Bz}(sc:ag)(tg:Bool):∀(x:List Ex) {h:p.H},Q l h->Q l (Ex.hsl p sc tg h x)
 |[],h,hq=>hq
 |x::r,h,hq=>by simp only[Ex.hsl];exact eU.qK sc tg r (eU.ex sc tg x hq)
end
theorem eU.el{l:List Bz}(sc:ag):∀(x:List El) {h:p.H},Q l h->Q l (El.hsl p sc h x)
 |[],h,hq=>hq
 |x::r,h,hq=>eU.el sc r (h:=Ex.hsl p sc false h x.ak) (i.qK sc false x.ak hq)
omit i in
theorem CJ(l a:List Bz):(l++bY a).length=l.length+(ah a l.length).length:=by rw[cJ,iW,iR a l.length 0]
mutual
theorem eU.sm(sc:ag){l:List Bz}:∀(s:Sm) {h:p.H},Q l h->Q (l++s.bn) (s.hs p sc l.length h)
 |.mk lb k t g e el d b,h,hq=>by
  simp only[Sm.hs,Sm.bn];split
  .have h1:=i.enters (i.qK sc true g hq) _ (bM d b) bL;rw[<-CJ];have h2:=eU.del (ah (bM d b) l.length::sc) sc d h1;have h3:=eU.Hy (ah (bM d b) l.length::sc) b h2;rw[cJ,De.ny]at h3;rw[<-cO,<-cO];exact h3
  .split
   .have h1:=i.enters (i.qK sc true g hq) _ (bq b) bL;rw[<-CJ];have h3:=eU.Hy (ah (bq b) l.length::sc) b h1;rw[<-cO];exact h3
   .exact i.mf _ _ _ (eU.MU sc b (i.el sc el (i.qK sc false e (i.qK sc true g hq))))
theorem eU.de(own sc:ag){l:List Bz}:∀(d:De) {h:p.H},Q l h->Q (l++d.bn) (d.hs p own sc l.length h)
 |.mk k o t nm e f b,h,hq=>by
  simp only[De.hs,De.bn];split
  .have h1:=i.enters (i.qK own false e hq) _ (f.map Fo.name) bL;rw[<-CJ,<-cO];exact eU.MU _ b h1
  .rw[kR];exact i.qK _ _ e hq
theorem eU.del(own sc:ag){l:List Bz}:∀(d:List De) {h:p.H},Q l h->Q (l++De.bS d) (De.hsl p own sc l.length h d)
 |[],h,hq=>by simpa[De.bS,De.hsl]using hq
 |x::r,h,hq=>by
  have h1:=eU.del own sc r (eU.de own sc x hq);rw[cJ,De.jR,cO]at h1;simp only[De.bS,De.hsl];exact h1
theorem eU.Hy(sc:ag){l:List Bz}:∀(s:List Sm) {h:p.H},Q l h->Q (l++Sm.bS s) (Sm.hsl p sc l.length h s)
 |[],h,hq=>by simpa[Sm.bS,Sm.hsl]using hq
 |x::r,h,hq=>by
  have h1:=eU.Hy sc r (eU.sm sc x hq);rw[cJ,Sm.jR,cO]at h1;simp only[Sm.bS,Sm.hsl];exact h1
theorem eU.MU(sc:ag){l:List Bz}:∀(s:List Sm) {h:p.H},Q l h->Q (l++Sm.eS s) (Sm.hs1 p sc l.length h s)
 |[],h,hq=>by simpa[Sm.eS,Sm.hs1]using hq
 |x::r,h,hq=>by
  have h0:=i.enters hq _ x.labels bL;have h1:=eU.MU sc r (eU.sm (ah x.labels l.length::sc) x h0);rw[cJ,Sm.jR,CJ,cO,cO]at h1;simp only[Sm.eS,Sm.hs1,cO];exact h1
end
end
def eU.cn{c:Cb}(ok:c.Ok):eU c.toPw fun l h=>c.cn h l.length:=⟨fun x h=>by rw[cJ];exact ok.ce x h,fun x sc tg h=>ok.cm x sc tg h,fun x sc h=>ok.cc x sc h⟩
section
variable {c:Cb} (ok:c.Ok)
include ok
theorem qcc{n:Nat}{h:c.H}(sc:ag)(tg:Bool)(x:List Ex)(k:c.cn h n):c.cn (Ex.hsl c.toPw sc tg h x) n:=by
 have:=(eU.cn ok).qK (l:=List.replicate n ⟨⟨[]⟩⟩) sc tg x (h:=h) (by simpa using k);simpa using this
theorem qcb{n:Nat}{h:c.H}(a:List Bz)(k:c.cn h n):c.cn (enters c.toPw h (ah a n)) (n+(ah a n).length):=by
 have:=(eU.cn ok).enters (l:=List.replicate n ⟨⟨[]⟩⟩) (h:=h) (by simpa using k) _ a bL;simp only[CJ]at this;simpa using this
theorem qcd{n:Nat}{h:c.H}(sc:ag)(s:List Sm)(k:c.cn h n):c.cn (Sm.hsl c.toPw sc n h s) (n+Sm.aJ s):=by
 have:=(eU.cn ok).Hy (l:=List.replicate n ⟨⟨[]⟩⟩) sc s (h:=h) (by simpa using k);simp only[cJ,Sm.ny]at this;simpa using this
end
def Gw(sz n0 w:Nat)(F D:Np)(xs:List V)(v:V)(S:St):Prop:=(xs=[]/\v=.sl true [])\/∃l wr,n0<=l/\er w F D l/\v=.arr l 0 xs.length xs.length/\S[l]?=some (.arr xs sz wr)/\wr<=xs.length
def Gw.nil(sz n0 w:Nat)(F D:Np)(S:St):Gw sz n0 w F D [] (.sl true []) S:=.inl ⟨rfl,rfl⟩
def Gw.step{sz n0 w:Nat}{F D F' D':Np}{xs:List V}{v:V}{S U:St}(h:Gw sz n0 w F D xs v S)(s:Stp w F D S F' D' U):Gw sz n0 w F' D' xs v U:=by
 rcases h with h|⟨l,wr,h1,h2,h3,h4,h5⟩
 .exact .inl h
 .exact .inr ⟨l,wr,h1,h2.next (aT.1 h4).1 s,h3,s.at h2 h4,h5⟩
def Gw.push{sz n0 w:Nat}{F D:Np}{xs:List V}{v:V}{S:St}(h:Gw sz n0 w F D xs v S)(os:List Ob):Gw sz n0 w F D xs v (S++os):=by
 rcases h with h|⟨l,wr,h1,h2,h3,h4,h5⟩
 .exact .inl h
 .exact .inr ⟨l,wr,h1,h2,h3,by rw[b8 (aT.1 h4).1];exact h4,h5⟩
def Gw.app1{c:Cb}(ok:c.Ok){sz w n bytes:Nat}{hh:c.H}{F0 D0 F D:Np}{xs:List V}{y v:V}{S0 S:St}{b:Bool}(h:Gw sz S0.length w F D xs v S)(k:Wk c w n hh F D S)(s:Stp w F0 D0 S0 F D S)(hy:fits sz [y]=true)(hr:(xs.length+1)*bytes<=2^47):
  ∃v' S',dY S sz bytes v (.sl b [y])=some (v',S')/\Gw sz S0.length w F D (xs++[y]) v' S'/\Wk c w n hh F D S'/\Stp w F0 D0 S0 F D S':=by
 have hlen:=s.k.len;rcases h with ⟨rfl,rfl⟩|⟨l,wr,h1,h2,rfl,h3,h4⟩
 .have hr':[y].length*bytes<=2^47:=by simpa using hr
  refine⟨.arr S.length 0 1 1,S++[.arr [y] sz 1],?_,.inr ⟨S.length,1,hlen,k.out ok bL,by simp,by simp,by simp⟩,k.push ok _,s.push _⟩;unfold dY;rw[mh];have hc:true=true/\fits sz [y]=true/\(([]:List V).all fun v=>v.size==sz)=true/\(([]:List V).length+[y].length)*bytes<=2^47:=⟨rfl,hy,rfl,hr⟩;show(if [y].isEmpty=true then _ else _)=_;rw[aj sM,ai hc];simp
 .have hc:0=0/\xs.length=xs.length/\xs.length=xs.length/\sz=sz/\fits sz [y]=true/\(xs.length+[y].length)*bytes<=2^47:=⟨rfl,rfl,rfl,rfl,hy,hr⟩;have hlt:l<S.length:=(aT.1 h3).1;refine⟨.arr l 0 (xs.length+1) (xs.length+1),S.set l (.arr (xs++[y]) sz wr),?_,.inr ⟨l,wr,h1,h2,by simp,by rw[bJ hlt],by simp;omega⟩,k.set ok _ h2.1 h2.2.1 h2.2.2,s.set _ h1⟩;unfold dY;rw[mh];show(match S[l]? with|_=>_)=_;rw[h3];show(if _ then _ else _)=_;rw[ai hc];rfl
def Gw.fin{c:Cb}(ok:c.Ok){sz w n:Nat}{hh:c.H}{F0 D0 F D:Np}{xs:List V}{v:V}{S0 U:St}(h:Gw sz S0.length w F D xs v U)(k:Wk c w n hh F D U)(s:Stp w F0 D0 S0 F D U):
  ∃U',cK S0.length v U (.sl false (xs.map V.weak)) U'/\Wk c w n hh F D U'/\Stp w F0 D0 S0 F D U':=by
 rcases h with ⟨rfl,rfl⟩|⟨l,wr,h1,h2,rfl,h3,h4⟩
 .exact⟨U,cK.weak (r:=.sl true []),k,s⟩
 .have g1:=cK.freeze (n:=S0.length) (l:=l) (off:=0) (len:=xs.length) (st:=xs.length) h3 h4 oM;simp only[tD,eR]at g1;have g2:cK S0.length (.sl false xs) (U.set l .dead) (V.sl false xs).weak (U.set l .dead):=cK.weak;simp only[V.weak,iM]at g2;exact⟨_,g1.trans g2,k.set ok _ h2.1 h2.2.1 h2.2.2,s.set _ h1⟩
def Wd(c:Cb)(w n:Nat)(h':c.H)(F D:Np)(S:St)(x:V)(r:V)(U:St):Prop:=r=x/\∃F' D',Wk c w n h' F' D' U/\Stp w F D S F' D' U
def yJ{c:Cb}(ok:c.Ok){sz w n:Nat}{hh:c.H}{F0 D0 F D:Np}{xs:List V}{v:V}{S0 U:St}{rs:List RV}{e:af}(hv:dm e U rs=some [v])(h:Gw sz S0.length w F D xs v U)(k:Wk c w n hh F D U)(s:Stp w F0 D0 S0 F D U){ys:List V}(hx:xs.map V.weak=ys):
  eH rs S0.length (fun r U=>Wd c w n hh F0 D0 S0 (.sl false ys) r U) .ret e U:=by
 obtain⟨U',g,k',s'⟩:=h.fin ok k s;exact⟨_,hv,_,U',g,by rw[hx],F,D,k',s'⟩
def Ww(c:Cb)(sz w n:Nat)(hh:c.H)(F D:Np)(S:St)(reg:Nat)(xs:List V)(e:af)(U:St):Prop:=∃(gv:V) (F' D':Np),e.get reg=some gv/\Gw sz S.length w F' D' xs gv U/\Wk c w n hh F' D' U/\Stp w F D S F' D' U
def Lw(c:Cb)(sz w:Nat)(F D:Np)(S:St)(len:Nat)(n:Nat->Nat)(hh:Nat->c.H)(xs:Nat->List V)(env:Nat->V->af)(j:Nat)(e:af)(U:St):Prop:=∃(i:Nat) (gv:V) (F' D':Np),j=len-i/\i<=len/\Gw sz S.length w F' D' (xs i) gv U/\Wk c w (n i) (hh i) F' D' U/\Stp w F D S F' D' U/\e=env i gv
def Ex.gn(x:Ex):fits 7 [x.v]=true:=by simp[fits]
def It(c:Cb)(w:Nat)(x:Ex):Prop:=∀(n:Nat) (h:c.H) (F D:Np) (S:St) (v:V) (ts:List cT) (tg:Bool),Wk c w n h F D S->cS c.toPw (fun l=>l=w\/F l) S v ts->
 au prog 97 [.ptr w 0 0 1,x.v,v,.bool tg] S (fun r U=>Wd c w n (Ex.hs c.toPw (am ts) tg h x) F D S (x.wr c.toPw (am ts) tg).v r U)
def Zl(c:Cb)(ok:c.Ok)(w:Nat)(l:List Ex)(H:∀x,x∈l->It c w x)(hl:l.length<=4000)(n:Nat)(h:c.H)(F D:Np)(S:St)(v:V)(ts:List cT)(tg:Bool)(hk:Wk c w n h F D S)(hsc:cS c.toPw (fun l=>l=w\/F l) S v ts):
  au prog 134 [.ptr w 0 0 1,.sl false (l.map Ex.v),v,.bool tg] S (fun r U=>Wd c w n (Ex.hsl c.toPw (am ts) tg h l) F D S (.sl false ((Ex.aL c.toPw (am ts) tg l).map Ex.v)) r U):=by
 refine au.ib Ox ?_;simp[Ox];refine du (Ww c 7 w n (Ex.hsl c.toPw (am ts) tg h l) F D S 9 ((Ex.aL c.toPw (am ts) tg l).map Ex.v)) ?_ ?_
 ·refine bN (Lw c 7 w F D S l.length (fun _=>n) (fun i=>Ex.hsl c.toPw (am ts) tg h (l.take i)) (fun i=>(Ex.aL c.toPw (am ts) tg (l.take i)).map Ex.v)
   (fun i gv=>[(14,.int .i64 i),(13,.int .i64 l.length),(12,.sl false (l.map Ex.v)),(9,gv),(0,.ptr w 0 0 1),(2,v),(3,.bool tg)])) l.length _ ?_ ⟨0,_,F,D,by simp,by omega,Gw.nil _ _ _ _ _ _,hk,Stp.refl _ _ _ _,rfl⟩ ?_
  .exact aN
  rintro j e U ⟨i,gv,F1,D1,rfl,hi,hg,hk1,hs1,rfl⟩;by_cases hlt:i<l.length
  .simp[hlt,mP,aC,aA,aE,ae];refine aU (H l[i] (cI hlt) n _ F1 D1 _ v ts tg (hk1.push ok _) ((hsc.step hs1).push _)) ?_;rintro r U2 ⟨rfl,F2,D2,hk2,hs2⟩;have hg2:=(hg.push [Ob.arr [l[i].v] 7 1]).step hs2;have hs3:=hs1.trans hs2.ofPush;obtain⟨v',U3,ha,hg3,hk3,hs4⟩:=hg2.app1 ok (bytes:=80) (b:=true) hk2 hs3 (Ex.gn (l[i].wr c.toPw (am ts) tg)) (by rw[bu,Ex.tp,bu,km];omega)
   have hn:(Ex.aL c.toPw (am ts) tg (l.take i)).map Ex.v++[(l[i].wr c.toPw (am ts) tg).v]=(Ex.aL c.toPw (am ts) tg (l.take (i+1))).map Ex.v:=by
    rw[Ex.tp,Ex.tp,cY,bI hlt,gZ,cy,cy];rfl
   have hn2:Ex.hs c.toPw (am ts) tg (Ex.hsl c.toPw (am ts) tg h (l.take i)) l[i]=Ex.hsl c.toPw (am ts) tg h (l.take (i+1)):=by
    rw[cY,bI hlt,gZ,Ex.qM];rfl
   rw[hn]at hg3;rw[hn2]at hk3;simp[Ex.gn,ha,bP i];refine⟨_,?_,_,?_,i+1,v',F2,D2,rfl,by omega,hg3,hk3,hs4,rfl⟩
   .omega
   .exact aN
  .have:i=l.length:=by omega
   subst this;simp only[eR]at hg hk1;simp;exact⟨gv,F1,D1,rfl,hg,hk1,hs1⟩
 rintro e U ⟨gv,F1,D1,g9,hg,hk1,hs1⟩;simp[g9];exact yJ ok rfl hg hk1 hs1 (by rw[<-iM,jq])
def Ex.hs_eq(p:Pw)(sc:ag)(tg:Bool)(h:p.H)(x:Ex):x.hs p sc tg h=p.mD sc tg (Ex.hsl p sc false h x.args) (.mk x.kind x.op x.n x.man x.exp x.text (Ex.aL p sc false x.args)):=by cases x;simp only[Ex.hs,Ex.kind,Ex.op,Ex.n,Ex.man,Ex.exp,Ex.text,Ex.args]
def Ex.Eb(p:Pw)(sc:ag)(tg:Bool)(x:Ex):x.wr p sc tg=p.qg sc tg (.mk x.kind x.op x.n x.man x.exp x.text (Ex.aL p sc false x.args)):=by cases x;simp only[Ex.wr,Ex.kind,Ex.op,Ex.n,Ex.man,Ex.exp,Ex.text,Ex.args]
def exV(x:Ex)(l:List Ex):V.agg [.int .i64 x.kind,.int .i64 x.op,.int .i64 x.n,.int .i64 x.man,.int .i64 x.exp,.str x.text,.sl false (l.map Ex.v)]=(Ex.mk x.kind x.op x.n x.man x.exp x.text l).v:=by rw[Ex.dJ];rfl
def Wk.Jj{c:Cb}(ok:c.Ok){w n:Nat}{h h':c.H}{F D F' D':Np}{S U:St}(k:Wk c w n h F D S)(hI:c.I h' F' D' U)(hk:Kp F S U)(gF:grow S F F')(gD:grow S D D'):(U[w]?=some (nc c n)/\¬F' w/\¬D' w)/\Stp w F D S F' D' U:=by
 have hlt:=(aT.1 k.tw).1;exact⟨⟨hk.at k.tw k.nF,fun hf=>(gF w hf).elim k.nF oM,fun hf=>(gD w hf).elim k.nD oM⟩,hk.mono fun _ _ h=>.inr h,gF,gD⟩
def Wk.call{c:Cb}(ok:c.Ok){w n:Nat}{h h':c.H}{F D F' D':Np}{S U:St}(k:Wk c w n h F D S)(hc:c.cn h' n)(hI:c.I h' F' D' U)(hk:Kp F S U)(gF:grow S F F')(gD:grow S D D'):Wk c w n h' F' D' U/\Stp w F D S F' D' U:=
 have⟨⟨a,b,d⟩,s⟩:=k.Jj ok hI hk gF gD
 ⟨⟨a,hI,b,d,hc⟩,s⟩
def HH(c:Cb)(ok:c.Ok)(w:Nat):∀(m:Nat) (x:Ex),(Pa.ex x).size<=m->m<=4000->It c w x
 |0,x,hx,_=>by have:=(Pa.ex x).size_pos;omega
 |m+1,x,hx,hm=>by
  intro n h F D S v ts tg hk hsc;have hsz:(Pa.ex x).size=1+aY (x.args.map Pa.ex):=by rw[Pa.size_eq];rfl
  have hl:x.args.length<=4000:=by have:=jm (x.args.map Pa.ex);rw[bu]at this;omega
  have IH:∀y,y∈x.args→It c w y:=fun y hy=>HH c ok w m y (by
   obtain⟨i,hi⟩:=jA (jO (f:=Pa.ex) hy);have:=jH hi;omega) oM
  refine au.ib QD ?_;obtain⟨S1,hS1⟩:∃S1:St,S1=S++[.arr [x.v] 7 1,.arr [.agg [.int .i64 0,.int .i64 0,.int .i64 0,.int .i64 0,.int .i64 0,.str ⟨⟨[]⟩⟩,.sl true []]] 7 1]:=⟨_,rfl⟩;have b0:S1[S.length]?=some (.arr [x.v] 7 1):=by rw[hS1,bK oM];simp
  have b1:S1[S.length+1]?=some (.arr [.agg [.int .i64 0,.int .i64 0,.int .i64 0,.int .i64 0,.int .i64 0,.str ⟨⟨[]⟩⟩,.sl true []]] 7 1):=by rw[hS1,bK oM];simp
  have l1:S1.length=S.length+2:=by rw[hS1];simp
  have k1:Wk c w n h F D S1:=by rw[hS1];exact hk.push ok _
  have s1:Stp w F D S F D S1:=by rw[hS1];exact(Stp.refl _ _ _ _).push _
  have o0:er w F D S.length:=hk.out ok bL;have o1:er w F D (S.length+1):=hk.out ok oM;simp[QD,aC,ae,aE];rw[<-hS1];refine aU (Zl c ok w x.args IH hl n h F D S1 v ts false k1 (hsc.step s1)) ?_;rintro r U ⟨rfl,F1,D1,k2,s2⟩;have c0:=s2.at o0 b0;have c1:=s2.at o1 b1;have p0:=o0.next oM s2;have p1:=o1.next oM s2;have s2':=s1.trans s2;generalize hl':Ex.aL c.toPw (am ts) false x.args=l' at *;generalize hh':Ex.hsl c.toPw (am ts) false h x.args=h' at *;have hu:=s2.k.len;obtain⟨y,hy⟩:∃y:Ex,y=.mk x.kind x.op x.n x.man x.exp x.text l':=⟨_,rfl⟩;have yk:y.kind=x.kind:=by rw[hy];rfl
  have yt:y.text=x.text:=by rw[hy];rfl
  have hst:Ob.arr [V.agg [.int .i64 x.kind,.int .i64 x.op,.int .i64 x.n,.int .i64 x.man,.int .i64 x.exp,.str x.text,.sl false (l'.map Ex.v)]] 7 1=.arr [y.v] 7 1:=by rw[exV,<-hy]
  obtain⟨U2,cA⟩:∃U2:St,U2=U.set S.length (.arr [y.v] 7 1):=⟨_,rfl⟩;have d0:U2[S.length]?=some (.arr [y.v] 7 1):=by rw[cA,bJ oM]
  have d1:U2[S.length+1]?=some (.arr [.agg [.int .i64 0,.int .i64 0,.int .i64 0,.int .i64 0,.int .i64 0,.str ⟨⟨[]⟩⟩,.sl true []]] 7 1):=by rw[cA,bC oM];exact c1
  have k3:Wk c w n h' F1 D1 U2:=by rw[cA];exact k2.set ok _ p0.1 p0.2.1 p0.2.2
  have s3:Stp w F D S F1 D1 U2:=by rw[cA];exact s2'.set _ bL
  have l2:U2.length=U.length:=by rw[cA];simp
  simp[aA,ae,c0,qt,aE];rw[hst,<-cA];rw[Ex.Eb,Ex.hs_eq,hl',hh',<-hy];have fin:∀(h2:c.H) (F2 D2:Np) (U3:St) (z:Ex),U3[S.length+1]?=some (.arr [z.v] 7 1)->Wk c w n h2 F2 D2 U3->Stp w F D S F2 D2 U3->∀e:af,e.get 8=some (.ptr (S.length+1) 0 0 1)->eH [.cell 8 (some 7)] S.length (fun r U=>Wd c w n h2 F D S z.v r U) .ret e U3:=
   fun h2 F2 D2 U3 z hz hk3 hs3 e he=>aS (vs:=[z.v]) (by simp[dm,he,ae,hz]) ⟨rfl,F2,D2,hk3,hs3⟩
  have fin2:∀(h2:c.H) (F2 D2:Np) (U3:St) (z:Ex) (o:Ob),U3[S.length+1]?=some o->er w F2 D2 (S.length+1)->Wk c w n h2 F2 D2 U3->Stp w F D S F2 D2 U3->∀e:af,e.get 8=some (.ptr (S.length+1) 0 0 1)->eH [.cell 8 (some 7)] S.length (fun r U=>Wd c w n h2 F D S z.v r U) .ret e (U3.set (S.length+1) (.arr [z.v] 7 1)):=
   fun h2 F2 D2 U3 z o hz po hk3 hs3 e he=>fin h2 F2 D2 _ z (bJ (aT.1 hz).1) (hk3.set ok _ po.1 po.2.1 po.2.2) (hs3.set _ oM) e he
  by_cases hn:Ex.named x.kind=true
  case neg=>
   have e6:x.kind≠6:=fun hh=>hn (by rw[hh];rfl)
   have e7:x.kind≠7:=fun hh=>hn (by rw[hh];rfl)
   have e8:x.kind≠8:=fun hh=>hn (by rw[hh];rfl)
   simp[ae,d0,yk,e6,e7,e8,aA,d1,aE];have e1:c.toPw.qg (am ts) tg y=y:=by unfold Pw.qg;rw[yk,aj hn]
   have e2:c.toPw.mD (am ts) tg h' y=h':=by unfold Pw.mD;rw[yk,aj hn]
   rw[e1,e2];exact fin2 _ F1 D1 _ _ _ d1 p1 k3 s3 _ rfl
  have hk3:x.kind=6\/x.kind=7\/x.kind=8:=by
   unfold Ex.named at hn;simpa[or_assoc]using hn
  have tw:=k3.tw;unfold nc at tw
  cases hnm:c.nm with
  |none=>
   have hfn:c.fn=.bB:=by have:=ok.nm;rw[hnm]at this;exact this
   rw[hfn]at tw;have nI:=hsc.step s3;have hfind:=xQ nI x.text;have e2:c.toPw.mD (am ts) tg h' y=h':=by unfold Pw.mD;rw[hnm];simp
   have e1:c.toPw.qg (am ts) tg y=.mk y.kind y.op y.n y.man y.exp (fH c.toPw (am ts) y.text) y.args:=by unfold Pw.qg;rw[yk,ai hn,hnm]
   rw[e1,e2,yt];have hat:=tY ts x.text
   cases hf:kq ts x.text with
   |none=>
    have hr:fH c.toPw (am ts) x.text=x.text:=by unfold fH;rw[hat,hf];rfl
    have hv:gK ts x.text=.bF:=by simp[gK,hf]
    rw[hv]at hfind;have hy':Ex.mk y.kind y.op y.n y.man y.exp x.text y.args=y:=by rw[hy];rfl
    rw[hr,hy'];rcases hk3 with e|e| e
    all_goals
     simp[ae,d0,yk,yt,e,cF,tw,eh,dN]
     refine aG hfind ?_
     simp[ae,d0,eh,dN,aA,d1,aE]
     exact fin2 _ F1 D1 _ _ _ d1 p1 k3 s3 _ rfl
   |some q=>
    have hr:fH c.toPw (am ts) x.text=c.f q.1 x.text:=by unfold fH;rw[hat,hf];rfl
    have hv:gK ts x.text=.ptr q.2 0 0 1:=by simp[gK,hf]
    rw[hv]at hfind;have hq:=nI.BE hf;unfold dZ at hq;obtain⟨z,hz⟩:∃z:Ex,z=.mk y.kind y.op y.n y.man y.exp (c.f q.1 x.text) y.args:=⟨_,rfl⟩;have hzv:Ob.arr [V.agg [.int .i64 y.kind,.int .i64 y.op,.int .i64 y.n,.int .i64 y.man,.int .i64 y.exp,.str (c.f q.1 x.text),.sl false (y.args.map Ex.v)]] 7 1=.arr [z.v] 7 1:=by rw[hz,Ex.dJ];rfl
    rw[hr,<-hz];have hlt0:S.length<U2.length:=aM d0;rcases hk3 with e|e| e
    all_goals
     simp[ae,d0,yk,yt,e,cF,tw,eh,dN]
     refine aG hfind ?_
     simp[ae,d0,eh,dN,cF,hq,aA,qt,aE]
     rw[hzv]
     have f0:(U2.set S.length (.arr [z.v] 7 1))[S.length]?=some (.arr [z.v] 7 1):=bJ hlt0
     have f1:(U2.set S.length (.arr [z.v] 7 1))[S.length+1]?=some (.arr [.agg [.int .i64 0,.int .i64 0,.int .i64 0,.int .i64 0,.int .i64 0,.str ⟨⟨[]⟩⟩,.sl true []]] 7 1):=by rw[bC oM];exact d1
     have k4:=k3.set ok (.arr [z.v] 7 1) p0.1 p0.2.1 p0.2.2
     have s4:=s3.set (.arr [z.v] 7 1) bL
     generalize U2.set S.length (.arr [z.v] 7 1)=U4 at f0 f1 k4 s4 |-
     simp[ae,f0,aA,f1,aE]
     exact fin2 _ F1 D1 _ _ _ f1 p1 k4 s4 _ rfl
  |some g=>
   have hcb:=ok.nm;rw[hnm]at hcb;obtain⟨kf,cs,hfn,hsp⟩:=hcb;rw[hfn]at tw;have e2:c.toPw.mD (am ts) tg h' y=c.oZ h' y (am ts) tg:=by unfold Pw.mD;rw[yk,ai hn,hnm]
   have e1:c.toPw.qg (am ts) tg y=g y (am ts) tg:=by unfold Pw.qg;rw[yk,ai hn,hnm]
   rw[e1,e2];have KA:=hsp U2 y v ts tg w h' F1 D1 (hsc.step s3) k3.st;obtain⟨Fi,Di,Ui,hi⟩:=ok.real k3.st (c.oZ h' y (am ts) tg);rcases hk3 with e|e| e
   all_goals
    simp[ae,d0,yk,e,cF,tw,eh,dN]
    refine qw KA ⟨_,Ui,rfl,Fi,Di,hi⟩ ?_
    rintro r U3 ⟨rfl,F2,D2,q1,q2,q3,q4⟩
    obtain⟨k4,s4⟩:=k3.call ok (ok.cm _ _ _ k3.cn) q1 q2 q3 q4
    have f1:=s4.at p1 d1
    have p1':=p1.next oM s4
    simp[aA,f1,aE,cU,dx]
    exact fin2 _ F2 D2 _ _ _ f1 p1' k4 (s3.trans s4) _ rfl
def il(p:Pw)(sc:ag)(l:List Bz):List Bz:=l.map (fH p sc)
def El.aL(p:Pw)(sc:ag)(l:List El):List El:=l.map (El.wr p sc)
def ZB(c:Cb)(ok:c.Ok)(w:Nat)(l:List Bz)(hl:l.length<=4000)(n:Nat)(h:c.H)(F D:Np)(S:St)(v:V)(ts:List cT)(hin:∀x,x∈l->((am ts).at x).isSome=true)(hk:Wk c w n h F D S)(hsc:cS c.toPw (fun l=>l=w\/F l) S v ts):
  au prog 218 [.sl false (l.map .str),v] S (fun r U=>Wd c w n h F D S (.sl false ((il c.toPw (am ts) l).map .str)) r U):=by
 refine au.ib PD ?_;simp[PD];refine du (Ww c 1 w n h F D S 5 ((il c.toPw (am ts) l).map .str)) ?_ ?_
 ·refine bN (Lw c 1 w F D S l.length (fun _=>n) (fun _=>h) (fun i=>(il c.toPw (am ts) (l.take i)).map .str)
   (fun i gv=>[(10,.int .i64 i),(9,.int .i64 l.length),(8,.sl false (l.map .str)),(5,gv),(1,v)])) l.length _ ?_ ⟨0,_,F,D,by simp,by omega,Gw.nil _ _ _ _ _ _,hk,Stp.refl _ _ _ _,rfl⟩ ?_
  .exact aN
  rintro j e U ⟨i,gv,F1,D1,rfl,hi,hg,hk1,hs1,rfl⟩;by_cases hlt:i<l.length
  .have hsc1:=hsc.step hs1;have hfind:=xQ hsc1 l[i];have hat:=tY ts l[i]
   obtain⟨q,hq⟩:∃q,kq ts l[i]=some q:=by
    have:=hin l[i] (cI hlt);rw[hat]at this
    cases hf:kq ts l[i] with
    |none=>rw[hf]at this;cases this
    |some q=>exact⟨q,rfl⟩
   have hv:gK ts l[i]=.ptr q.2 0 0 1:=by simp[gK,hq]
   have hr:fH c.toPw (am ts) l[i]=c.f q.1 l[i]:=by unfold fH;rw[hat,hq];rfl
   rw[hv]at hfind;have hg1:=hsc1.BE hq;unfold dZ at hg1;simp[hlt,jb];refine aG hfind ?_;obtain⟨v',U3,ha,hg3,hk3,hs4⟩:=hg.app1 ok (bytes:=16) (b:=true) (y:=.str (c.f q.1 l[i])) hk1 hs1 (by rfl) (by simp only[il,El.aL,bu,km];omega)
   have hn:(il c.toPw (am ts) (l.take i)).map V.str++[.str (c.f q.1 l[i])]=(il c.toPw (am ts) (l.take (i+1))).map V.str:=by
    unfold il;rw[cY,bI hlt,gZ,cy,cy,<-hr];rfl
   rw[hn]at hg3;have hfs:fits 1 [V.str (c.f q.1 l[i])]=true:=rfl;simp[cF,ae,hg1,hfs,ha,bP i];refine⟨_,?_,_,?_,i+1,v',F1,D1,rfl,by omega,hg3,hk3,hs4,rfl⟩
   .omega
   .exact aN
  .have:i=l.length:=by omega
   subst this;simp only[eR]at hg hk1;simp;exact⟨gv,F1,D1,rfl,hg,hk1,hs1⟩
 rintro e U ⟨gv,F1,D1,g5,hg,hk1,hs1⟩;simp[g5];exact yJ ok rfl hg hk1 hs1 (by rw[<-iM,jL])
def El.gn(x:El):fits 2 [x.v]=true:=by simp[fits]
def El.qM(p:Pw)(sc:ag)(h:p.H)(l m:List El):El.hsl p sc h (l++m)=El.hsl p sc (El.hsl p sc h l) m:=by unfold El.hsl;rw[pG]
def DI(c:Cb)(ok:c.Ok)(w:Nat)(l:List Ex)(hl:aY (l.map Pa.ex)<=4000)(n:Nat)(h:c.H)(F D:Np)(S:St)(v:V)(ts:List cT)(tg:Bool)(hk:Wk c w n h F D S)(hsc:cS c.toPw (fun l=>l=w\/F l) S v ts):
  au prog 134 [.ptr w 0 0 1,.sl false (l.map Ex.v),v,.bool tg] S (fun r U=>Wd c w n (Ex.hsl c.toPw (am ts) tg h l) F D S (.sl false ((Ex.aL c.toPw (am ts) tg l).map Ex.v)) r U):=
 Zl c ok w l (fun x hx=>HH c ok w 4000 x (by
  obtain⟨i,hi⟩:=jA (jO (f:=Pa.ex) hx);have:=jH hi;omega) oM) (by have:=jm (l.map Pa.ex);rw[bu]at this;omega) n h F D S v ts tg hk hsc
def Wd.some{c:Cb}(ok:c.Ok){w n n':Nat}{h:c.H}{F D:Np}{S:St}(hk:Wk c w n h F D S)(h':c.H)(hc:c.cn h' n')(x:V):∃r U,Wd c w n' h' F D S x r U:=by
 obtain⟨F',D',U,q1,q2,q3,q4⟩:=ok.real hk.st h';obtain⟨⟨a,b,d⟩,s⟩:=hk.Jj ok q1 q2 q3 q4;have hlt:=(aT.1 a).1;refine⟨x,U.set w (nc c n'),rfl,F',D',⟨bJ hlt,ok.fr (M:=fun l=>l=w) q1 ((Kp.refl _ _).set _ (.inl rfl)) (fun l hl _=>by rw[hl];exact⟨b,d⟩),b,d,hc⟩,s.k.set _ (.inl (.inl rfl)),s.gF,s.gD⟩
def qk4(c:Cb)(ok:c.Ok)(w:Nat)(l:List El)(hl:aY (l.map Pa.el)<=4000)(n:Nat)(h:c.H)(F D:Np)(S:St)(v:V)(ts:List cT)(hk:Wk c w n h F D S)(hsc:cS c.toPw (fun l=>l=w\/F l) S v ts):
  au prog 221 [.ptr w 0 0 1,.sl false (l.map El.v),v] S (fun r U=>Wd c w n (El.hsl c.toPw (am ts) h l) F D S (.sl false ((El.aL c.toPw (am ts) l).map El.v)) r U):=by
 have hlen:l.length<=4000:=by have:=jm (l.map Pa.el);rw[bu]at this;omega
 refine au.ib PH ?_;simp[PH];refine du (Ww c 2 w n (El.hsl c.toPw (am ts) h l) F D S 7 ((El.aL c.toPw (am ts) l).map El.v)) ?_ ?_
 ·refine bN (Lw c 2 w F D S l.length (fun _=>n) (fun i=>El.hsl c.toPw (am ts) h (l.take i)) (fun i=>(El.aL c.toPw (am ts) (l.take i)).map El.v)
   (fun i gv=>[(12,.int .i64 i),(11,.int .i64 l.length),(10,.sl false (l.map El.v)),(7,gv),(0,.ptr w 0 0 1),(2,v)])) l.length _ ?_ ⟨0,_,F,D,by simp,by omega,Gw.nil _ _ _ _ _ _,hk,Stp.refl _ _ _ _,rfl⟩ ?_
  .exact aN
  rintro j e U ⟨i,gv,F1,D1,rfl,hi,hg,hk1,hs1,rfl⟩;by_cases hlt:i<l.length
  .have hse:aY (l[i].ak.map Pa.ex)<=4000:=by
    have h1:=jH (l:=l.map Pa.el) (i:=i) (q:=Pa.el l[i]) (by simp[hlt]);have h2:(Pa.el l[i]).size=1+aY (l[i].ak.map Pa.ex):=by rw[Pa.size_eq];rfl
    omega
   obtain⟨U1,dl⟩:∃U1:St,U1=U++[.arr [l[i].v] 2 1]:=⟨_,rfl⟩;have hk2:Wk c w n (El.hsl c.toPw (am ts) h (l.take i)) F1 D1 U1:=by rw[dl];exact hk1.push ok _
   have hs2:Stp w F D S F1 D1 U1:=by rw[dl];exact hs1.push _
   have hg2:Gw 2 S.length w F1 D1 ((El.aL c.toPw (am ts) (l.take i)).map El.v) gv U1:=by rw[dl];exact hg.push _
   have b0:U1[U.length]?=some (.arr [l[i].v] 2 1):=by rw[dl];simp
   have o0:er w F1 D1 U.length:=hk1.out ok bL;have hlU:U1.length=U.length+1:=by rw[dl];simp
   have hcall:=DI c ok w l[i].ak hse n _ F1 D1 U1 v ts false hk2 (hsc.step hs2);simp[hlt,BZ,aC,aA,aE,ae];rw[<-dl];refine qw hcall (Wd.some ok hk2 _ (qcc ok _ _ _ hk2.cn) _) ?_;rintro r U2 ⟨rfl,F2,D2,hk3,hs3⟩;have b1:=hs3.at o0 b0;have hg3:=hg2.step hs3;have hs4:=hs2.trans hs3;obtain⟨v',U3,ha,hg4,hk4,hs5⟩:=hg3.app1 ok (bytes:=32) (b:=true) hk3 hs4 (El.gn (l[i].wr c.toPw (am ts))) (by simp only[il,El.aL,bu,km];omega)
   have hn:(El.aL c.toPw (am ts) (l.take i)).map El.v++[(l[i].wr c.toPw (am ts)).v]=(El.aL c.toPw (am ts) (l.take (i+1))).map El.v:=by
    unfold El.aL;rw[cY,bI hlt,gZ,cy,cy];rfl
   have hn2:Ex.hsl c.toPw (am ts) false (El.hsl c.toPw (am ts) h (l.take i)) l[i].ak=El.hsl c.toPw (am ts) h (l.take (i+1)):=by
    rw[cY,bI hlt,gZ,El.qM];rfl
   rw[hn]at hg4;rw[hn2]at hk4;have hb:bj (.agg [.int .i64 0,.sl true []]) [(0,1,.int .i64 l[i].kind),(1,1,.sl false ((Ex.aL c.toPw (am ts) false l[i].ak).map Ex.v))]=some (l[i].wr c.toPw (am ts)).v:=by simp[bj,aE];rfl
   simp[bz,hb,El.gn,ha,cU,dx,dG,ae,b0,b1,bP i];refine⟨_,?_,_,?_,i+1,v',F2,D2,rfl,by omega,hg4,hk4,hs5,rfl⟩
   .omega
   .exact aN
  .have:i=l.length:=by omega
   subst this;simp only[eR]at hg hk1;simp;exact⟨gv,F1,D1,rfl,hg,hk1,hs1⟩
 rintro e U ⟨gv,F1,D1,g5,hg,hk1,hs1⟩;simp[g5];exact yJ ok rfl hg hk1 hs1 (by rw[<-iM,m7])
def qbs(s:bw)(e:Bz×Nat)(y:Bz)(h:(s.at y).isSome=true):(bw.at (s++[e]) y).isSome=true:=by
 unfold bw.at at *;rw[qB]
 cases hf:s.find? fun p=>decide (p.1=y) with
 |none=>rw[hf]at h;simp at h
 |some p=>simp
def qbw(s:bw)(x:Bz)(n:Nat):(bw.at (s++[(x,n)]) x).isSome=true:=by
 unfold bw.at;rw[qB]
 cases hf:s.find? fun p=>decide (p.1=x) with
 |none=>simp
 |some p=>simp
def E8(y:Bz):∀(l:List Bz) (s:bw) (n:Nat),(s.at y).isSome=true->((binds l s n).at y).isSome=true
 |[],_,_,h=>h
 |x::l,s,n,h=>by
  simp only[binds];split
  .exact E8 y l s n h
  .exact E8 y l _ _ (qbs s _ y h)
def E7(y:Bz):∀(l:List Bz) (s:bw) (n:Nat),y∈l->((binds l s n).at y).isSome=true
 |x::l,s,n,h=>by
  simp only[binds];rcases cX.1 h with rfl| h
  .split
   .rename_i hs;exact E8 y l s n hs
   .exact E8 y l _ _ (qbw s y n)
  .split
   .exact E7 y l s n h
   .exact E7 y l _ _ h
def sd(sc:ag)(l:List Bz):Prop:=∀x,x∈l->(sc.at x).isSome=true
def za(l:List Bz)(n:Nat)(sc:ag):sd (ah l n::sc) l:=fun x hx=>by
 have:=E7 x l [] n hx;unfold ag.at;unfold ah
 cases h:bw.at (binds l [] n) x with
 |none=>rw[h]at this;cases this
 |some k=>rfl
def sd.sub{sc:ag}{l m:List Bz}(h:sd sc l)(hm:∀x,x∈m->x∈l):sd sc m:=fun x hx=>h x (hm x hx)
def qf6{l:List Sm}{s:Sm}(hs:s∈l):∀x,x∈s.labels->x∈bq l:=fun x hx=>tI.2 ⟨s,hs,hx⟩
def Sm.gn(x:Sm):fits 8 [x.v]=true:=by simp[fits]
def De.gn(x:De):fits 7 [x.v]=true:=by simp[fits]
def vT(c:Cb)(w:Nat)(s:Sm):Prop:=∀(n:Nat) (h:c.H) (F D:Np) (S:St) (v:V) (ts:List cT),Wk c w n h F D S->cS c.toPw (fun l=>l=w\/F l) S v ts->sd (am ts) s.labels->n+s.nb<=c.lim->
 au prog 186 [.ptr w 0 0 1,s.v,v] S (fun r U=>Wd c w (n+s.nb) (s.hs c.toPw (am ts) n h) F D S (s.wr c.toPw (am ts) n).v r U)
def cS.weak{p:Pw}{X:Np}{S:St}{v:V}{ts:List cT}(h:cS p X S v ts):v.weak=v:=by
 cases ts with
 |nil=>have h':v=.bF:=h;rw[h'];rfl
 |cons t r=>obtain⟨l,_,_,_,_,_,rfl,_⟩:=h;rfl
def tn(p:Pw)(sc:ag):∀(m:List Sm) (n:Nat),(Sm.aL p sc n m).length=m.length
 |[],_=>rfl
 |x::m,n=>by simp only[Sm.aL,eE,tn p sc m]
def MY(c:Cb)(ok:c.Ok)(w:Nat)(l:List Sm)(b:Bool)(H:∀s,s∈l->vT c w s)(hl:l.length<=4000)(n:Nat)(h:c.H)(F D:Np)(S:St)(v:V)(ts:List cT)(hk:Wk c w n h F D S)(hsc:cS c.toPw (fun l=>l=w\/F l) S v ts)
  (hin:sd (am ts) (bq l)) (hn:n+Sm.aJ l<=c.lim):
  au prog 156 [.ptr w 0 0 1,.sl b (l.map Sm.v),v] S (fun r U=>Wd c w (n+Sm.aJ l) (Sm.hsl c.toPw (am ts) n h l) F D S (.sl false ((Sm.aL c.toPw (am ts) n l).map Sm.v)) r U):=by
 refine au.vn ?_;simp only[V.cr,V.weak,i4,hsc.weak];refine au.ib OL ?_;simp[OL];refine du (Ww c 8 w (n+Sm.aJ l) (Sm.hsl c.toPw (am ts) n h l) F D S 7 ((Sm.aL c.toPw (am ts) n l).map Sm.v)) ?_ ?_
 ·refine bN (Lw c 8 w F D S l.length (fun i=>n+Sm.aJ (l.take i)) (fun i=>Sm.hsl c.toPw (am ts) n h (l.take i)) (fun i=>(Sm.aL c.toPw (am ts) n (l.take i)).map Sm.v)
   (fun i gv=>[(12,.int .i64 i),(11,.int .i64 l.length),(10,.sl false (l.map Sm.v)),(7,gv),(0,.ptr w 0 0 1),(2,v)])) l.length _ ?_ ⟨0,_,F,D,by simp,by omega,Gw.nil _ _ _ _ _ _,hk,Stp.refl _ _ _ _,rfl⟩ ?_
  .exact aN
  rintro j e U ⟨i,gv,F1,D1,rfl,hi,hg,hk1,hs1,rfl⟩;dsimp only at hg hk1;by_cases hlt:i<l.length
  .have ht:l.take (i+1)=l.take i++[l[i]]:=by rw[cY,bI hlt];rfl
   have hnb:Sm.aJ (l.take (i+1))=Sm.aJ (l.take i)+l[i].nb:=by rw[ht,Sm.qf];simp[Sm.aJ]
   have hnl:Sm.aJ (l.take (i+1))<=Sm.aJ l:=by
    have:Sm.aJ l=Sm.aJ (l.take (i+1))+Sm.aJ (l.drop (i+1)):=by rw[<-Sm.qf,lA]
    omega
   simp[hlt,pY,aC,aA,aE,ae];refine aU (H l[i] (cI hlt) _ _ F1 D1 _ v ts (hk1.push ok _) ((hsc.step hs1).push _) (hin.sub (qf6 (cI hlt))) oM) ?_;rintro r U2 ⟨rfl,F2,D2,hk2,hs2⟩;have hg2:=(hg.push [Ob.arr [l[i].v] 8 1]).step hs2;have hs3:=hs1.trans hs2.ofPush
   obtain ⟨v',U3,ha,hg3,hk3,hs4⟩:=hg2.app1 ok (bytes:=168) (b:=true) hk2 hs3 (Sm.gn (l[i].wr c.toPw (am ts) (n+Sm.aJ (l.take i)))) (by
    rw[bu,tn,km];omega)
   have hn1:(Sm.aL c.toPw (am ts) n (l.take i)).map Sm.v++[(l[i].wr c.toPw (am ts) (n+Sm.aJ (l.take i))).v]=(Sm.aL c.toPw (am ts) n (l.take (i+1))).map Sm.v:=by
    rw[ht,Sm.Ec,cy];rfl
   have hn2:Sm.hs c.toPw (am ts) (n+Sm.aJ (l.take i)) (Sm.hsl c.toPw (am ts) n h (l.take i)) l[i]=Sm.hsl c.toPw (am ts) n h (l.take (i+1)):=by
    rw[ht,Sm.qM];rfl
   rw[hn1]at hg3;rw[hn2,gj,<-hnb]at hk3;simp[Sm.gn,ha,bP i];refine⟨_,?_,_,?_,i+1,v',F2,D2,rfl,by omega,hg3,hk3,hs4,rfl⟩
   .omega
   .exact aN
  .have:i=l.length:=by omega
   subst this;simp only[eR]at hg hk1;simp;exact⟨gv,F1,D1,rfl,hg,hk1,hs1⟩
 rintro e U ⟨gv,F1,D1,g9,hg,hk1,hs1⟩;simp[g9];exact yJ ok rfl hg hk1 hs1 (by rw[<-iM,i4])
def bw.CL{t:cT}{s:bw}(h:t.kK=s):t.length=s.length:=by rw[<-h];exact(bu _).symm
def Ad(p:Pw)(sc:ag):∀(m:List Sm) (n:Nat),(Sm.dW p sc n m).length=m.length
 |[],_=>rfl
 |x::m,n=>by simp only[Sm.dW,eE,Ad p sc m]
def Sm.qap(p:Pw)(sc:ag):∀(l m:List Sm) (n:Nat),Sm.dW p sc n (l++m)=Sm.dW p sc n l++Sm.dW p sc (n+Sm.aX l) m
 |[],m,n=>by simp[Sm.dW,Sm.aX]
 |x::l,m,n=>by
  have:=iR x.labels n 0;simp only[cP,Sm.dW,Sm.aX,Sm.qap p sc l m,this,gj]
def Sm.Ut(p:Pw)(sc:ag):∀(l m:List Sm) (n:Nat) (h:p.H),Sm.hs1 p sc n h (l++m)=Sm.hs1 p sc (n+Sm.aX l) (Sm.hs1 p sc n h l) m
 |[],m,n,h=>by simp[Sm.hs1,Sm.aX]
 |x::l,m,n,h=>by
  have:=iR x.labels n 0;simp only[cP,Sm.hs1,Sm.aX,Sm.Ut p sc l m,this,gj]
def MW(c:Cb)(ok:c.Ok)(w:Nat)(l:List Sm)(b:Bool)(H:∀s,s∈l->vT c w s)(hl:l.length<=4000)(hls:∀s,s∈l->s.ok)(n:Nat)(h:c.H)(F D:Np)(S:St)(v:V)(ts:List cT)(hk:Wk c w n h F D S)(hsc:cS c.toPw (fun l=>l=w\/F l) S v ts)
  (hn:n+Sm.aX l<=c.lim):
  au prog 111 [.ptr w 0 0 1,.sl b (l.map Sm.v),v] S (fun r U=>Wd c w (n+Sm.aX l) (Sm.hs1 c.toPw (am ts) n h l) F D S (.sl false ((Sm.dW c.toPw (am ts) n l).map Sm.v)) r U):=by
 refine au.vn ?_;simp only[V.cr,V.weak,i4,hsc.weak];refine au.ib Oj ?_;simp[Oj];refine du (Ww c 8 w (n+Sm.aX l) (Sm.hs1 c.toPw (am ts) n h l) F D S 7 ((Sm.dW c.toPw (am ts) n l).map Sm.v)) ?_ ?_
 ·refine bN (Lw c 8 w F D S l.length (fun i=>n+Sm.aX (l.take i)) (fun i=>Sm.hs1 c.toPw (am ts) n h (l.take i)) (fun i=>(Sm.dW c.toPw (am ts) n (l.take i)).map Sm.v)
   (fun i gv=>[(13,.int .i64 i),(12,.int .i64 l.length),(11,.sl false (l.map Sm.v)),(7,gv),(0,.ptr w 0 0 1),(2,v)])) l.length _ ?_ ⟨0,_,F,D,by simp,by omega,Gw.nil _ _ _ _ _ _,hk,Stp.refl _ _ _ _,rfl⟩ ?_
  .exact aN
  rintro j e U ⟨i,gv,F1,D1,rfl,hi,hg,hk1,hs1,rfl⟩;dsimp only at hg hk1;by_cases hlt:i<l.length
  .have ht:l.take (i+1)=l.take i++[l[i]]:=by rw[cY,bI hlt];rfl
   have hnb:Sm.aX (l.take (i+1))=Sm.aX (l.take i)+((ah l[i].labels 0).length+l[i].nb):=by rw[ht,Sm.CS];simp[Sm.aX]
   have hnl:Sm.aX (l.take (i+1))<=Sm.aX l:=by
    have:Sm.aX l=Sm.aX (l.take (i+1))+Sm.aX (l.drop (i+1)):=by rw[<-Sm.CS,lA]
    omega
   have hbl:=iR l[i].labels (n+Sm.aX (l.take i)) 0;have hlab:bq [l[i]]=l[i].labels:=by simp[bq]
   have qe4:Sm.bR [l[i]]:=⟨hls _ (cI hlt),trivial⟩;have hy:=NZ [l[i]] (by unfold aR;simp) qe4 (U.length+1);rw[hlab]at hy;simp[hlt,pY,aC,aA,aE,ae,Sm.gn];obtain⟨U1,dl⟩:∃U1:St,U1=U++[.arr [l[i].v] 8 1]:=⟨_,rfl⟩;rw[<-dl];have GN:U1.length=U.length+1:=by rw[dl];simp
   have q1:=MZ [l[i]] true U1;simp only[b9,jj]at q1 hy;refine aU q1 ?_;rintro r U2 ⟨rfl,cA⟩;have hk2:Wk c w (n+Sm.aX (l.take i)) (Sm.hs1 c.toPw (am ts) n h (l.take i)) F1 D1 U2:=by rw[cA,dl];exact(hk1.push ok _).push ok _
   have hs2:Stp w F D S F1 D1 U2:=by rw[cA,dl];exact(hs1.push _).push _
   have hg2:Gw 8 S.length w F1 D1 ((Sm.dW c.toPw (am ts) n (l.take i)).map Sm.v) gv U2:=by rw[cA,dl];exact(hg.push _).push _
   have hc2:U2[U.length+1]?=some (.arr [.sl false [l[i].v]] 1 1):=by rw[cA,bK oM];simp[GN]
   have lU2:U2.length=U.length+2:=by rw[cA];simp[GN]
   simp;rw[GN];refine aU (HA c ok w _ _ F1 D1 v ts l[i].labels 187 [.ptr (U.length+1) 0 0 1] (U.length+1) _ hy sM U2 hk2 (fun _=>False) (fun _ h=>h.elim) ((hsc.step hs2).sub fun l hh=>hh.imp id fun a=>a.resolve_right id) hc2 (hk1.out ok oM) oM) ?_;rintro r U3 ⟨t,F2,D2,hts,hk3,hs3,nI⟩;have nI:=nI.sub (X':=fun l=>l=w\/F2 l) fun l hh=>hh.imp id .inl
   have htl:=bw.CL hts;have nJ:am (t::ts)=ah l[i].labels (n+Sm.aX (l.take i))::am ts:=by simp only[am,b9,hts]
   simp;have q2:=MY c ok w [l[i]] true (fun s hs=>by simp at hs;subst hs;exact H _ (cI hlt)) sM _ _ F2 D2 U3 r (t::ts) hk3 nI (by rw[nJ,hlab];exact za _ _ _) (by simp only[Sm.aJ];omega);simp only[b9,jj,nJ,Sm.aJ,Sm.hsl,Sm.aL,rJ]at q2;refine aU q2 ?_;rintro r U4 ⟨rfl,F3,D3,hk4,hs4⟩;have Uu:=hs3.trans hs4;have hg4:=hg2.step Uu;have hs5:=hs2.trans Uu
   obtain ⟨v',U5,ha,hg5,hk5,hs6⟩:=hg4.app1 ok (bytes:=168) (b:=false) hk4 hs5 (Sm.gn (l[i].wr c.toPw (ah l[i].labels (n+Sm.aX (l.take i))::am ts) (n+Sm.aX (l.take i)+t.length))) (by
    rw[bu,Ad,km];omega)
   have hn1:(Sm.dW c.toPw (am ts) n (l.take i)).map Sm.v++[(l[i].wr c.toPw (ah l[i].labels (n+Sm.aX (l.take i))::am ts) (n+Sm.aX (l.take i)+t.length)).v]=(Sm.dW c.toPw (am ts) n (l.take (i+1))).map Sm.v:=by
    rw[ht,Sm.qap,cy,htl];rfl
   have hn2:Sm.hs c.toPw (ah l[i].labels (n+Sm.aX (l.take i))::am ts) (n+Sm.aX (l.take i)+t.length) (enters c.toPw (Sm.hs1 c.toPw (am ts) n h (l.take i)) (ah l[i].labels (n+Sm.aX (l.take i)))) l[i]=Sm.hs1 c.toPw (am ts) n h (l.take (i+1)):=by
    rw[ht,Sm.Ut,htl];rfl
   rw[hn1]at hg5;rw[hn2,show n+Sm.aX (l.take i)+t.length+l[i].nb=n+Sm.aX (l.take (i+1)) by omega]at hk5;simp[ha,bP i];refine⟨_,?_,_,?_,i+1,v',F3,D3,rfl,by omega,hg5,hk5,hs6,rfl⟩
   .omega
   .exact aN
  .have:i=l.length:=by omega
   subst this;simp only[eR]at hg hk1;simp;exact⟨gv,F1,D1,rfl,hg,hk1,hs1⟩
 rintro e U ⟨gv,F1,D1,g9,hg,hk1,hs1⟩;simp[g9];exact yJ ok rfl hg hk1 hs1 (by rw[<-iM,i4])
def qaE(l:List Fo)(S:St)(r:V)(U:St):Prop:=(l=[]/\(∃b,r=.sl b [])/\U=S)\/(l≠[]/\r=.arr S.length 0 l.length l.length/\U=S++[.arr (l.map Fo.v) 4 l.length])
def qdY(l:List Fo):fits 4 (l.map Fo.v)=true:=by
 simp[fits]
def qln(l:List Fo)(hl:l.length<=4000)(S:St):au prog 273 [.sl false (l.map Fo.v)] S (fun r U=>qaE l S r U):=by
 refine au.ib ⟨_,func273,ok273⟩ ?_
 cases l with
 |nil=>
  simp[c273,aZ];refine .inl ⟨by simp[kF,xp,aV.ev,af.get],?_⟩;intro v hv;simp[kF,xp,aV.ev,af.get]at hv;rcases hv with rfl|rfl
  .simp;exact aS rfl (.inl ⟨rfl,⟨_,rfl⟩,rfl⟩)
  .simp[fits,dY,elems];exact aS rfl (.inl ⟨rfl,⟨_,rfl⟩,rfl⟩)
 |cons x l=>
  have hf:fits 4 (x.v::l.map Fo.v)=true:=qdY (x::l);have hf0:fits 4 []=true:=rfl
  have ha:dY S 4 40 (.sl true []) (.sl false (x.v::l.map Fo.v))=some (.arr S.length 0 (l.length+1) (l.length+1),S++[.arr (x.v::l.map Fo.v) 4 (l.length+1)]):=by
   simp only[eE]at hl;have hr':(([]:List V).length+(x.v::l.map Fo.v).length)*40<=2^47:=by simp;omega
   have hc:true=true/\fits 4 (x.v::l.map Fo.v)=true/\(([]:List V).all fun v=>v.size==4)=true/\(([]:List V).length+(x.v::l.map Fo.v).length)*40<=2^47:=⟨rfl,hf,rfl,hr'⟩;unfold dY;rw[mh];show(if(x.v::l.map Fo.v).isEmpty=true then _ else _)=_;rw[aj sM,ai hc];simp
  simp[c273,aZ,hf0,ha];exact aS rfl (.inr ⟨by simp,rfl,rfl⟩)
mutual
theorem V.FU{l:Nat}{xs:List V}{wr:Nat}:∀v:V,v.under 0=true->v.eB l xs wr=v
 |.arr l' i o st,h=>by simp only[V.under,cR]at h;omega
 |.sl x ys,h=>by simp only[V.under]at h;simp only[V.eB,V.yQ ys h]
 |.iface t v,h=>by simp only[V.under]at h;simp only[V.eB,V.FU v h]
 |.agg cs,h=>by simp only[V.under]at h;simp only[V.eB,V.yQ cs h]
 |.aH cs,h=>by simp only[V.under]at h;simp only[V.eB,V.yQ cs h]
 |.top,_=>rfl
 |.bool _,_=>rfl
 |.int _ _,_=>rfl
 |.str _,_=>rfl
 |.bF,_=>rfl
 |.cL _ _,_=>rfl
 |.cG,_=>rfl
 |.bB,_=>rfl
 |.dr,_=>rfl
 |.ptr _ _ _ _,_=>rfl
 |.map _,_=>rfl
 |.cj _,_=>rfl
 |.bG _ _,_=>rfl
 |.fn _ _ _,_=>rfl
theorem V.yQ{l:Nat}{xs:List V}{wr:Nat}:∀vs:List V,V.dj 0 vs=true->V.tZ l xs wr vs=vs
 |[],_=>rfl
 |v::vs,h=>by
  simp only[V.dj,bZ]at h;simp only[V.tZ,V.FU v h.1,V.yQ vs h.2]
end
def Fv(n0 w:Nat)(F D:Np)(xs:List V)(rf:V)(S:St):Prop:=(xs=[]/\∃b,rf=.sl b [])\/∃l wr,n0<=l/\er w F D l/\rf=.arr l 0 xs.length xs.length/\S[l]?=some (.arr xs 4 wr)/\wr<=xs.length
def Fv.step{n0 w:Nat}{F D F' D':Np}{xs:List V}{v:V}{S U:St}(h:Fv n0 w F D xs v S)(s:Stp w F D S F' D' U):Fv n0 w F' D' xs v U:=by
 rcases h with h|⟨l,wr,h1,h2,h3,h4,h5⟩
 .exact .inl h
 .exact .inr ⟨l,wr,h1,h2.next (aT.1 h4).1 s,h3,s.at h2 h4,h5⟩
def oY:V->Option V
 |.sl _ xs=>some (.int .i64 xs.length)
 |.arr _ _ n _=>some (.int .i64 n)
 |_=>none
def Fv.len{n0 w:Nat}{F D:Np}{xs:List V}{v:V}{S:St}(h:Fv n0 w F D xs v S):oY v=some (.int .i64 xs.length):=by
 rcases h with ⟨rfl,b,rfl⟩|⟨l,wr,h1,h2,rfl,h4,h5⟩<;>rfl
def Fv.flat{n0 w:Nat}{F D:Np}{xs:List V}{v:V}{S:St}(h:Fv n0 w F D xs v S):v.cells=[v]/\v.flat=true/\v.size=1:=by
 rcases h with ⟨rfl,b,rfl⟩|⟨l,wr,h1,h2,rfl,h4,h5⟩<;>exact⟨rfl,rfl,rfl⟩
def Fv.fin{c:Cb}(ok:c.Ok){w n:Nat}{hh:c.H}{F0 D0 F D:Np}{xs:List V}{rf:V}{S0 U:St}{n0:Nat}(h:Fv n0 w F D xs rf U)(hn0:S0.length<=n0)(k:Wk c w n hh F D U)(s:Stp w F0 D0 S0 F D U){a b:List V}(ha:V.dj 0 a=true)(hb:V.dj 0 b=true)(ha':V.cr a=a)(hb':V.cr b=b):
  ∃U',cK S0.length (.agg (a++rf::b)) U (.agg (a++.sl false (V.cr xs)::b)) U'/\Wk c w n hh F D U'/\Stp w F0 D0 S0 F D U':=by
 have wl:∀x y:List V,V.cr (x++y)=V.cr x++V.cr y:=fun x y=>by rw[iM,iM,iM,cy]
 rcases h with ⟨rfl,b',rfl⟩|⟨l,wr,h1,h2,rfl,h3,h4⟩
 .have:=cK.weak (n:=S0.length) (r:=.agg (a++.sl b' []::b)) (S:=U);simp only[V.weak,wl,V.cr,ha',hb']at this;exact⟨U,this,k,s⟩
 .have g1:=cK.BG (n:=S0.length) (r:=.agg (a++.arr l 0 xs.length xs.length::b)) h3
  have hz:V.eB l xs wr (.agg (a++.arr l 0 xs.length xs.length::b))=.agg (a++.sl false xs::b):=by
   simp only[V.eB,rT,cy,b9];rw[<-rT,<-rT,V.yQ _ ha,V.yQ _ hb,ai (by simp[h4])];simp
  rw[hz]at g1;have g2:=cK.weak (n:=S0.length) (r:=.agg (a++.sl false xs::b)) (S:=U.set l .dead);simp only[V.weak,wl,V.cr,ha',hb']at g2;exact⟨_,g1.trans g2,k.set ok _ h2.1 h2.2.1 h2.2.2,s.set _ oM⟩
def rb(p:Pw)(sc:ag)(l:List Fo):List Fo:=l.map (Fo.wr p sc)
def De.pr(p:Pw)(sc:ag)(n:Nat)(d:De):De:=.mk d.kind d.own d.type d.names d.ak (rb p (ah (d.aB.map Fo.name) n::sc) d.aB) (Sm.dW p (ah (d.aB.map Fo.name) n::sc) (n+(ah (d.aB.map Fo.name) n).length) d.body)
def De.Dj(p:Pw)(sc:ag)(n:Nat)(h:p.H)(d:De):p.H:=Sm.hs1 p (ah (d.aB.map Fo.name) n::sc) (n+(ah (d.aB.map Fo.name) n).length) (enters p h (ah (d.aB.map Fo.name) n)) d.body
def De.uH(d:De):Nat:=(ah (d.aB.map Fo.name) 0).length+Sm.aX d.body
def iU(e:af)(S:St)(x:aV):br e S (.len false x)=(x.ev e).bind fun v=>(oY v).map fun r=>(r,S):=by
 simp only[br]
 cases x.ev e with
 |none=>rfl
 |some v=>cases v<;>rfl
def mO(p:Pw)(sc:ag)(l:List Fo)(i:Nat):List V:=(rb p sc (l.take i)++l.drop i).map Fo.v
def J4(p:Pw)(sc:ag)(l:List Fo)(i:Nat)(hi:i<=l.length):(mO p sc l i).length=l.length:=by simp[mO,rb];omega
def qeE(p:Pw)(sc:ag)(l:List Fo)(i:Nat)(hi:i<l.length):(mO p sc l i)[i]?=some l[i].v:=by
 unfold mO rb;rw[dS,bK (by simp;omega)];simp[show i-min i l.length=0 by omega,hi]
def qeF(p:Pw)(sc:ag)(l:List Fo)(i:Nat)(hi:i<l.length):(mO p sc l i).set i (Fo.wr p sc l[i]).v=mO p sc l (i+1):=by
 unfold mO rb;apply ou;intro j;rw[EE];by_cases hj:i=j
 .subst hj;rw[ai rfl,ai (by simp;omega),dS,b8 (by simp;omega)];simp[lj,hi]
 .rw[aj hj,dS,dS];congr 1;by_cases hlt:j<i
  .rw[b8 (by simp;omega),b8 (by simp;omega),dS,dS,lj hlt,lj oM]
  .rw[bK (by simp;omega),bK (by simp;omega)];simp only[bu,km,kh];congr 1;omega
structure Pf(c:Cb)(w n:Nat)(h:c.H)(F D F1 D1:Np)(S:St)(d:De)(U3:St)(xs:List V)(rf:V)(X:St):Prop where
 fv:Fv (S.length+2) w F1 D1 xs rf X
 wk:Wk c w n h F1 D1 X
 st:Stp w F D S F1 D1 X
 sg:Kp (fun l=>l=w\/F1 l\/(l=S.length\/l=S.length+1)) U3 X
 b0:X[S.length]?=some (.arr [d.v] 7 1)
 b1:X[S.length+1]?=some (.arr [.agg [.int .i64 0,.bool false,.int .i64 0,.sl true [],.sl true [],.sl true [],.sl true []]] 7 1)
def qli(c:Cb)(ok:c.Ok)(w:Nat)(d:De)(H:∀s,s∈d.body->vT c w s)(hb:d.body.length<=4000)(hbs:∀s,s∈d.body->s.ok)(hf:d.aB.length<=4000)(n:Nat)(h:c.H)(F D:Np)(S:St)(v:V)(ts:List cT)(hk:Wk c w n h F D S)(hsc:cS c.toPw (fun l=>l=w\/F l) S v ts)
  (hn:n+d.uH<=c.lim):
  au prog 256 [.ptr w 0 0 1,d.v,v] S (fun r U=>Wd c w (n+d.uH) (d.Dj c.toPw (am ts) n h) F D S (d.pr c.toPw (am ts) n).v r U):=by
 refine au.ib PY ?_;unfold De.uH at hn;have hbl:=iR (d.aB.map Fo.name) n 0;obtain⟨S1,hS1⟩:∃S1:St,S1=S++[.arr [d.v] 7 1,.arr [.agg [.int .i64 0,.bool false,.int .i64 0,.sl true [],.sl true [],.sl true [],.sl true []]] 7 1]:=⟨_,rfl⟩;have b0:S1[S.length]?=some (.arr [d.v] 7 1):=by rw[hS1,bK oM];simp
 have b1:S1[S.length+1]?=some (.arr [.agg [.int .i64 0,.bool false,.int .i64 0,.sl true [],.sl true [],.sl true [],.sl true []]] 7 1):=by rw[hS1,bK oM];simp
 have l1:S1.length=S.length+2:=by rw[hS1];simp
 have k1:Wk c w n h F D S1:=by rw[hS1];exact hk.push ok _
 have s1:Stp w F D S F D S1:=by rw[hS1];exact(Stp.refl _ _ _ _).push _
 have o0:er w F D S.length:=hk.out ok bL;have o1:er w F D (S.length+1):=hk.out ok oM;simp[PY,aC,ae,aE];rw[<-hS1];refine aU (qlm d S1) ?_;rintro r U2 ⟨rfl,cA⟩;have k2:Wk c w n h F D U2:=by rw[cA];exact k1.push ok _
 have s2:Stp w F D S F D U2:=by rw[cA];exact s1.push _
 have c2:U2[S1.length]?=some (.arr [d.v] 7 1):=by rw[cA];simp
 have b02:U2[S.length]?=some (.arr [d.v] 7 1):=by rw[cA];exact gp b0
 have b12:U2[S.length+1]?=some (.arr [.agg [.int .i64 0,.bool false,.int .i64 0,.sl true [],.sl true [],.sl true [],.sl true []]] 7 1):=by rw[cA];exact gp b1
 have l2:U2.length=S.length+3:=by rw[cA];simp[l1]
 simp
 refine aU (HA c ok w n h F D v ts (d.aB.map Fo.name) 277 [.ptr S1.length 0 0 1] S1.length _ (qm2 d (by unfold aR;omega) S1.length) sM U2 k2 (fun l=>l=S.length∨l=S.length+1) (by rintro l (rfl|rfl) <;> omega) ((hsc.more (X':=fun l=>l=w∨F l∨(l=S.length∨l=S.length+1)) (fun l hh=>by
  rcases hh with hh|hh|hh|hh
  .exact .inl (.inl hh)
  .exact .inl (.inr hh)
  .exact .inr oM
  .exact .inr oM)).mono (s2.k.mono fun l _ hh=>hh.imp id .inl) fun l hh=>.inl hh) c2 (hk.out ok oM) oM) ?_
 rintro r U3 ⟨t,F1,D1,hts,k3,s3,nI⟩;have htl:=bw.CL hts;have nJ:am (t::ts)=ah (d.aB.map Fo.name) n::am ts:=by simp only[am,b9,hts]
 have IX:=s3.at o0 b02;have b13:=s3.at o1 b12;have p0:=o0.next oM s3;have p1:=o1.next oM s3;have s3':=s2.trans s3;have l3:=s3.k.len;simp[ae,IX];refine aU (qln d.aB hf U3) ?_;rintro rf U4 hcl
 have hpf:Pf c w (n+t.length) (enters c.toPw h (ah (d.aB.map Fo.name) n)) F D F1 D1 S d U3 (mO c.toPw (ah (d.aB.map Fo.name) n::am ts) d.aB 0) rf U4/\(rf=.arr U3.length 0 d.aB.length d.aB.length\/d.aB=[]):=by
  have h0:mO c.toPw (ah (d.aB.map Fo.name) n::am ts) d.aB 0=d.aB.map Fo.v:=by simp[mO,rb]
  rw[h0];rcases hcl with ⟨h1,⟨b,rfl⟩,rfl⟩|⟨h1,rfl,rfl⟩
  .exact⟨⟨.inl ⟨by rw[h1];rfl,b,rfl⟩,k3,s3',Kp.refl _ _,IX,b13⟩,.inr h1⟩
  .exact⟨⟨.inr ⟨U3.length,d.aB.length,by omega,k3.out ok bL,by simp,by simp,by simp⟩,k3.push ok _,s3'.push _,(Kp.refl _ _).push _,gp IX,gp b13⟩,.inl rfl⟩
 obtain⟨hpf,hrf⟩:=hpf;have hlen:oY rf=some (.int .i64 d.aB.length):=by have:=hpf.fv.len;rwa [J4 _ _ _ _ oM]at this
 simp[↓iU,hlen];refine du (fun e X=>Pf c w (n+t.length) (enters c.toPw h (ah (d.aB.map Fo.name) n)) F D F1 D1 S d U3 ((rb c.toPw (ah (d.aB.map Fo.name) n::am ts) d.aB).map Fo.v) rf X/\e.get 8=some rf/\e.get 7=some r/\e.get 0=some (.ptr w 0 0 1)/\e.get 4=some (.ptr S.length 0 0 1)/\e.get 6=some (.ptr (S.length+1) 0 0 1)) ?_ ?_
 ·refine bN (fun j e X=>∃i:Nat,j=d.aB.length - i∧i≤d.aB.length∧Pf c w (n+t.length) (enters c.toPw h (ah (d.aB.map Fo.name) n)) F D F1 D1 S d U3 (mO c.toPw (ah (d.aB.map Fo.name) n::am ts) d.aB i) rf X∧
    e=[(20,.int .i64 i),(19,.int .i64 d.aB.length),(8,rf),(7,r),(0,.ptr w 0 0 1),(4,.ptr S.length 0 0 1),(6,.ptr (S.length+1) 0 0 1)]) d.aB.length _ ?_ ⟨0,by simp,by omega,hpf,rfl⟩ ?_
  .exact aN
  rintro j e X ⟨i,rfl,hi,hp,rfl⟩;by_cases hlt:i<d.aB.length
  .have Ur:=nI.mono hp.sg fun l hh=>.inl hh
   have hfind:=xQ Ur d.aB[i].name;have hat:=tY (t::ts) d.aB[i].name;rw[nJ]at hat
   obtain⟨q,hq⟩:∃q,kq (t::ts) d.aB[i].name=some q:=by
    have:=za (d.aB.map Fo.name) n (am ts) d.aB[i].name (jO (cI hlt));rw[hat]at this
    cases hf:kq (t::ts) d.aB[i].name with
    |none=>rw[hf]at this;cases this
    |some q=>exact⟨q,rfl⟩
   have hv:gK (t::ts) d.aB[i].name=.ptr q.2 0 0 1:=by simp[gK,hq]
   have hr:fH c.toPw (ah (d.aB.map Fo.name) n::am ts) d.aB[i].name=c.f q.1 d.aB[i].name:=by unfold fH;rw[hat,hq];rfl
   rw[hv]at hfind;have hg1:=Ur.BE hq;unfold dZ at hg1;have hne:d.aB≠[]:=by intro hh;rw[hh]at hlt;simp at hlt
   have qfd:=hrf.resolve_right hne;subst qfd;have hl:=J4 c.toPw (ah (d.aB.map Fo.name) n::am ts) d.aB i oM;have hget:=qeE c.toPw (ah (d.aB.map Fo.name) n::am ts) d.aB i hlt;have hset:=qeF c.toPw (ah (d.aB.map Fo.name) n::am ts) d.aB i hlt;have hl':=J4 c.toPw (ah (d.aB.map Fo.name) n::am ts) d.aB (i+1) oM;rcases hp.fv with ⟨h1,_⟩|⟨fl,wr,z1,z2,z3,z4,z5⟩
   .rw[h1]at hl;simp at hl;omega
   rw[hl]at z3 z5;cases z3
   have qfp:V.upd d.aB[i].v 0 1 (.str (c.f q.1 d.aB[i].name))=some (Fo.wr c.toPw (ah (d.aB.map Fo.name) n::am ts) d.aB[i]).v:=by
    rw[qab,aE];unfold Fo.wr;rw[hr];rfl
   have hia:eJ X 4 (.arr U3.length 0 d.aB.length d.aB.length) (i:Int)=some (.ptr U3.length i 0 d.aB.length):=by
    simp[eJ,z4,z5,hlt]
   have hld:ae X (.ptr U3.length i 0 d.aB.length) none=some (.str d.aB[i].name):=by
    simp[ae,z4,z5,hlt,hget]
   have hst:aA X (.ptr U3.length i 0 d.aB.length) 1 (.str (c.f q.1 d.aB[i].name))=some (X.set U3.length (.arr (mO c.toPw (ah (d.aB.map Fo.name) n::am ts) d.aB (i+1)) 4 d.aB.length)):=by
    simp[aA,z4,hl,hget,qfp,hset]
   simp[hlt,hia,hld];refine aG hfind ?_;have Kq:ae X (.ptr q.2 0 2 1) none=some (.str (c.f q.1 d.aB[i].name)):=by simp[ae,hg1]
   simp[cF,hia,Kq,hst,bP i];have qeW:U3.length<X.length:=(aT.1 z4).1;refine⟨_,?_,_,?_,i+1,rfl,by omega,⟨.inr ⟨U3.length,d.aB.length,z1,z2,by rw[hl'],bJ qeW,by rw[hl'];exact cq _⟩,hp.wk.set ok _ z2.1 z2.2.1 z2.2.2,hp.st.set _ oM,hp.sg.set _ (.inr bL),?_,?_⟩,rfl⟩
   .omega
   .exact aN
   .rw[bC oM];exact hp.b0
   .rw[bC oM];exact hp.b1
  .have:i=d.aB.length:=by omega
   subst this;have he:mO c.toPw (ah (d.aB.map Fo.name) n::am ts) d.aB d.aB.length=(rb c.toPw (ah (d.aB.map Fo.name) n::am ts) d.aB).map Fo.v:=by simp[mO]
   rw[he]at hp;simp;exact hp
 rintro e X ⟨hp,g8,g7,g0,g4,g6⟩;obtain⟨f1,f2,f3⟩:=hp.fv.flat;have fl':=hp.fv.flat;obtain⟨X1,hX1⟩:∃X1:St,X1=X.set S.length (.arr [.agg [.int .i64 d.kind,.bool d.own,.int .i64 d.type,.sl false (d.names.map .str),.sl false (d.ak.map Ex.v),rf,.sl false (d.body.map Sm.v)]] 7 1):=⟨_,rfl⟩;have lX:S.length<X.length:=aM hp.b0;have q0:X1[S.length]?=some (.arr [.agg [.int .i64 d.kind,.bool d.own,.int .i64 d.type,.sl false (d.names.map .str),.sl false (d.ak.map Ex.v),rf,.sl false (d.body.map Sm.v)]] 7 1):=by rw[hX1,bJ lX]
 have q1:X1[S.length+1]?=some (.arr [.agg [.int .i64 0,.bool false,.int .i64 0,.sl true [],.sl true [],.sl true [],.sl true []]] 7 1):=by rw[hX1,bC oM];exact hp.b1
 have kX:Wk c w (n+t.length) (enters c.toPw h (ah (d.aB.map Fo.name) n)) F1 D1 X1:=by rw[hX1];exact hp.wk.set ok _ p0.1 p0.2.1 p0.2.2
 have sX:Stp w F D S F1 D1 X1:=by rw[hX1];exact hp.st.set _ bL
 have scX:cS c.toPw (fun l=>l=w\/F1 l) X1 r (t::ts):=by
  rw[hX1];exact(nI.mono (hp.sg.set _ (.inl (.inr (.inr (.inl rfl))))) fun l hh=>.inl hh).sub fun l hh=>hh.imp id .inl
 have fvX:Fv (S.length+2) w F1 D1 ((rb c.toPw (ah (d.aB.map Fo.name) n::am ts) d.aB).map Fo.v) rf X1:=by
  rcases hp.fv with hh|⟨fl,wr,z1,z2,z3,z4,z5⟩
  .exact .inl hh
  .exact .inr ⟨fl,wr,z1,z2,z3,by rw[hX1,bC oM];exact z4,z5⟩
 simp[g8,g7,g0,g4,aA,hp.b0,DX,aE,f1,f2,f3];rw[<-hX1];simp[ae,q0,g8,g7,g0,g4,g6];have q2:=MW c ok w d.body false H hb hbs _ _ F1 D1 X1 r (t::ts) kX scX oM;rw[nJ]at q2;refine aU q2 ?_;rintro r2 U5 ⟨rfl,F2,D2,k5,s5⟩;have c0:=s5.at p0 q0;have c1:=s5.at p1 q1;obtain⟨av,hav⟩:∃av:V,av=.agg [.int .i64 d.kind,.bool d.own,.int .i64 d.type,.sl false (d.names.map .str),.sl false (d.ak.map Ex.v),rf,.sl false ((Sm.dW c.toPw (ah (d.aB.map Fo.name) n::am ts) (n+t.length) d.body).map Sm.v)]:=⟨_,rfl⟩;have c0':(U5.set S.length (.arr [av] 7 1))[S.length]?=some (.arr [av] 7 1):=bJ (aM c0);have c1':(U5.set S.length (.arr [av] 7 1))[S.length+1]?=some (.arr [.agg [.int .i64 0,.bool false,.int .i64 0,.sl true [],.sl true [],.sl true [],.sl true []]] 7 1):=by rw[bC oM];exact c1
 have lt1:S.length+1<U5.length:=aM c1;have lX1:S.length+1<X1.length:=aM q1;have p0':=p0.next oM s5;have p1':=p1.next oM s5;have kf:=(k5.set ok (.arr [av] 7 1) p0'.1 p0'.2.1 p0'.2.2).set ok (.arr [av] 7 1) p1'.1 p1'.2.1 p1'.2.2;have sf:=((sX.trans s5).set (.arr [av] 7 1) (cq S.length)).set (l:=S.length+1) (.arr [av] 7 1) oM
 have ff:Fv (S.length+2) w F2 D2 ((rb c.toPw (ah (d.aB.map Fo.name) n::am ts) d.aB).map Fo.v) rf ((U5.set S.length (.arr [av] 7 1)).set (S.length+1) (.arr [av] 7 1)):=by
  rcases fvX.step s5 with hh|⟨fl,wr,z1,z2,z3,z4,z5⟩
  .exact .inl hh
  .exact .inr ⟨fl,wr,z1,z2,z3,by rw[bC oM,bC oM];exact z4,z5⟩
 have hget:((U5.set S.length (.arr [av] 7 1)).set (S.length+1) (.arr [av] 7 1))[S.length+1]?=some (.arr [av] 7 1):=bJ (by simp;omega);simp[g4,aA,c0,aE,f1,f2,f3];rw[<-hav];have hpart:V.part av 0 (some 7)=some av:=by rw[hav,cH];rfl
 have hsz:av.size=7:=by rw[hav];rfl
 have hcl:av.cells.all V.flat=true:=by rw[hav];simp[f2]
 have hcl':∀x,x∈av.cells->x.flat=true:=by simpa[d6]using hcl
 simp[aA,ae,c0',c1',g4,g6,aE,hpart,hsz];rw[ai hcl'];obtain⟨U6,g,k6,s6⟩:=ff.fin ok oM kf sf (S0:=S) (F0:=F) (D0:=D) (a:=[.int .i64 d.kind,.bool d.own,.int .i64 d.type,.sl false (d.names.map .str),.sl false (d.ak.map Ex.v)]) (b:=[.sl false ((Sm.dW c.toPw (ah (d.aB.map Fo.name) n::am ts) (n+t.length) d.body).map Sm.v)])
  (by simp[V.dj,V.under]) (by simp[V.dj,V.under]) (by simp only[V.cr,V.weak,jL,jq]) (by simp only[V.cr,V.weak,i4])
 simp only[cP,eK,m8]at g;rw[<-hav]at g;refine⟨[av],by simp[dm,g6,ae,hget,hpart],_,U6,g,?_,F2,D2,?_,s6⟩
 .unfold De.pr;rw[De.dJ,<-htl];rfl
 .have:n+t.length+Sm.aX d.body=n+d.uH:=by unfold De.uH;omega
  rw[this]at k6;unfold De.Dj;rw[<-htl];exact k6
def De.d1(p:Pw)(own sc:ag)(d:De):De:=.mk d.kind d.own d.type (il p own d.names) (Ex.aL p (if d.kind=2 then sc else own) false d.ak) d.aB d.body
def De.Eb(p:Pw)(own sc:ag)(n:Nat)(d:De):d.wr p own sc n=if d.kind=4 then(d.d1 p own sc).pr p own n else d.d1 p own sc:=by
 cases d with
 |mk k o t nm e fo b=>
  rw[De.wr];show _=if k=4 then(De.d1 p own sc (.mk k o t nm e fo b)).pr p own n else De.d1 p own sc (.mk k o t nm e fo b)
  by_cases h:k=4
  .subst h;rfl
  .rw[aj h,aj h];rfl
def De.hs_eq(p:Pw)(own sc:ag)(n:Nat)(h:p.H)(d:De):d.hs p own sc n h=if d.kind=4 then(d.d1 p own sc).Dj p own n (Ex.hsl p (if d.kind=2 then sc else own) false h d.ak) else Ex.hsl p (if d.kind=2 then sc else own) false h d.ak:=by
 cases d with
 |mk k o t nm e fo b=>
  rw[De.hs];show _=if k=4 then(De.d1 p own sc (.mk k o t nm e fo b)).Dj p own n (Ex.hsl p (if k=2 then sc else own) false h e) else Ex.hsl p (if k=2 then sc else own) false h e
  by_cases h:k=4
  .subst h;rfl
  .rw[aj h,aj h]
def De.CU(d:De):d.nb=if d.kind=4 then d.uH else 0:=by
 cases d with
 |mk k o t nm e fo b=>rw[De.nb];rfl
def De.mZ(d:De):(Pa.de d).size=1+d.names.length+d.aB.length+aY (d.ak.map Pa.ex)+aY (d.body.map Pa.st):=by
 rw[Pa.size_eq];simp only[Pa.own,Pa.kids,pf];omega
def qav(p:Pw)(own sc:ag):∀(m:List De) (n:Nat),(De.aL p own sc n m).length=m.length
 |[],_=>rfl
 |x::m,n=>by simp only[De.aL,eE,qav p own sc m]
def Gw.lt{sz n0 w:Nat}{F D:Np}{xs:List V}{v:V}{S:St}(h:Gw sz n0 w F D xs v S):∀l a b c,v=.arr l a b c->l<S.length:=by
 intro l a b c hv;rcases h with ⟨_,rfl⟩|⟨l',wr,_,_,rfl,h4,_⟩
 .cases hv
 .cases hv;exact(aT.1 h4).1
def Gw.set{sz n0 w:Nat}{F D:Np}{xs:List V}{v:V}{S:St}(h:Gw sz n0 w F D xs v S){b:Nat}(o:Ob)(hne:∀l x y z,v=.arr l x y z->l<b):Gw sz n0 w F D xs v (S.set b o):=by
 rcases h with h|⟨l,wr,h1,h2,h3,h4,h5⟩
 .exact .inl h
 .exact .inr ⟨l,wr,h1,h2,h3,by rw[bC (Nat.ne_of_gt (hne _ _ _ _ h3))];exact h4,h5⟩
def qk3(c:Cb)(ok:c.Ok)(w:Nat)(l:List De)(hl:aY (l.map Pa.de)<=4000)(H:∀d,d∈l->∀s,s∈d.body->vT c w s)(hok:∀d,d∈l->∀s,s∈d.body->s.ok)(n:Nat)(h:c.H)(F D:Np)(S:St)(v1 v2:V)(eC ts:List cT)(hk:Wk c w n h F D S)
  (hsc1:cS c.toPw (fun l=>l=w\/F l) S v1 eC) (hsc2:cS c.toPw (fun l=>l=w\/F l) S v2 ts) (hin:∀d,d∈l->sd (am eC) d.names) (hn:n+De.aJ l<=c.lim):
  au prog 220 [.ptr w 0 0 1,.sl false (l.map De.v),v1,v2] S (fun r U=>Wd c w (n+De.aJ l) (De.hsl c.toPw (am eC) (am ts) n h l) F D S (.sl false ((De.aL c.toPw (am eC) (am ts) n l).map De.v)) r U):=by
 have hlen:l.length<=4000:=by have:=jm (l.map Pa.de);rw[bu]at this;omega
 refine au.ib PG ?_;simp[PG];refine du (Ww c 7 w (n+De.aJ l) (De.hsl c.toPw (am eC) (am ts) n h l) F D S 9 ((De.aL c.toPw (am eC) (am ts) n l).map De.v)) ?_ ?_
 ·refine bN (Lw c 7 w F D S l.length (fun i=>n+De.aJ (l.take i)) (fun i=>De.hsl c.toPw (am eC) (am ts) n h (l.take i)) (fun i=>(De.aL c.toPw (am eC) (am ts) n (l.take i)).map De.v)
   (fun i gv=>[(14,.int .i64 i),(13,.int .i64 l.length),(12,.sl false (l.map De.v)),(9,gv),(0,.ptr w 0 0 1),(2,v1),(3,v2)])) l.length _ ?_ ⟨0,_,F,D,by simp,by omega,Gw.nil _ _ _ _ _ _,hk,Stp.refl _ _ _ _,rfl⟩ ?_
  .exact aN
  rintro j e U ⟨i,gv,F1,D1,rfl,hi,hg,hk1,hs1,rfl⟩;dsimp only at hg hk1;by_cases hlt:i<l.length
  case neg=>
   have:i=l.length:=by omega
   subst this;simp only[eR]at hg hk1;simp;exact⟨gv,F1,D1,rfl,hg,hk1,hs1⟩
  have hmem:l[i]∈l:=cI hlt;have ht:l.take (i+1)=l.take i++[l[i]]:=by rw[cY,bI hlt];rfl
  have hnb:De.aJ (l.take (i+1))=De.aJ (l.take i)+l[i].nb:=by rw[ht,De.qf];simp[De.aJ]
  have hnl:De.aJ (l.take (i+1))<=De.aJ l:=by
   have:De.aJ l=De.aJ (l.take (i+1))+De.aJ (l.drop (i+1)):=by rw[<-De.qf,lA]
   omega
  have qfm:(Pa.de l[i]).size<=4000:=by
   have:=jH (l:=l.map Pa.de) (i:=i) (q:=Pa.de l[i]) (by simp[hlt]);omega
  rw[De.mZ]at qfm;have hbl:l[i].body.length<=4000:=by have:=jm (l[i].body.map Pa.st);rw[bu]at this;omega
  obtain⟨d,hd⟩:∃d:De,d=l[i]:=⟨_,rfl⟩;have hv0:Ob.arr [l[i].v] 7 1=.arr [.agg [.int .i64 d.kind,.bool d.own,.int .i64 d.type,.sl false (d.names.map .str),.sl false (d.ak.map Ex.v),.sl false (d.aB.map Fo.v),.sl false (d.body.map Sm.v)]] 7 1:=by rw[<-hd,De.dJ]
  obtain⟨U1,dl⟩:∃U1:St,U1=U++[.arr [l[i].v] 7 1]:=⟨_,rfl⟩;have b1:U1[U.length]?=some (.arr [l[i].v] 7 1):=by rw[dl];simp
  have k1:=hk1.push ok [.arr [l[i].v] 7 1];rw[<-dl]at k1;have s1:Stp w F D S F1 D1 U1:=by rw[dl];exact hs1.push _
  have g1:Gw 7 S.length w F1 D1 ((De.aL c.toPw (am eC) (am ts) n (l.take i)).map De.v) gv U1:=by rw[dl];exact hg.push _
  have o1:er w F1 D1 U.length:=hk1.out ok bL;have GN:U1.length=U.length+1:=by rw[dl];simp
  have K5:=hs1.k.len;simp[hlt,wP,aC,aA,aE,ae];rw[<-dl];refine aU (ZB c ok w l[i].names oM _ _ F1 D1 U1 v1 eC (hin _ hmem) k1 (hsc1.step s1)) ?_;rintro r U2 ⟨rfl,F2,D2,k2,s2⟩;have b2:=s2.at o1 b1;have o2:=o1.next oM s2;have g2:=g1.step s2;have s12:=s1.trans s2;have l2:=s2.k.len;obtain⟨d1,hd1⟩:∃d1:De,d1=.mk d.kind d.own d.type (il c.toPw (am eC) d.names) d.ak d.aB d.body:=⟨_,rfl⟩;have qeL:d1.v=.agg [.int .i64 d.kind,.bool d.own,.int .i64 d.type,.sl false ((il c.toPw (am eC) d.names).map .str),.sl false (d.ak.map Ex.v),.sl false (d.aB.map Fo.v),.sl false (d.body.map Sm.v)]:=by rw[hd1,De.dJ];rfl
  obtain⟨U3,mN⟩:∃U3:St,U3=U2.set U.length (.arr [d1.v] 7 1):=⟨_,rfl⟩;have b3:U3[U.length]?=some (.arr [d1.v] 7 1):=by rw[mN,bJ (aM b2)]
  have k3:=k2.set ok (.arr [d1.v] 7 1) o2.1 o2.2.1 o2.2.2;rw[<-mN]at k3;have s3:Stp w F D S F2 D2 U3:=by rw[mN];exact s12.set _ K5
  have g3:Gw 7 S.length w F2 D2 ((De.aL c.toPw (am eC) (am ts) n (l.take i)).map De.v) gv U3:=by rw[mN];exact g2.set _ hg.lt
  simp[ae,b2,aA,DX,aE];rw[<-hd,<-qeL,<-mN];have d1k:d1.kind=d.kind:=by rw[hd1];rfl
  have d1e:d1.ak=d.ak:=by rw[hd1];rfl
  obtain⟨rp,UB⟩:∃rp,rp=if d.kind=2 then ts else eC:=⟨_,rfl⟩
  have UC:am rp=if d.kind=2 then am ts else am eC:=by rw[UB];split<;>rfl
  have hexp:∀(ve:V),cS c.toPw (fun l=>l=w\/F l) S ve rp->au prog 134 [.ptr w 0 0 1,.sl false (d.ak.map Ex.v),ve,.bool false] U3 (fun r U=>Wd c w (n+De.aJ (l.take i)) (Ex.hsl c.toPw (am rp) false (De.hsl c.toPw (am eC) (am ts) n h (l.take i)) d.ak) F2 D2 U3 (.sl false ((Ex.aL c.toPw (am rp) false d.ak).map Ex.v)) r U):=fun ve qN=>
   DI c ok w d.ak (by rw[hd];omega) _ _ F2 D2 U3 ve rp false k3 (qN.step s3)
  have l3:U3.length=U2.length:=by rw[mN];simp
  have o3:er w F2 D2 U.length:=o2;obtain⟨d2,hd2⟩:∃d2:De,d2=d.d1 c.toPw (am eC) (am ts):=⟨_,rfl⟩
  have qeM:d2.v=.agg [.int .i64 d1.kind,.bool d1.own,.int .i64 d1.type,.sl false (d1.names.map .str),.sl false ((Ex.aL c.toPw (am rp) false d.ak).map Ex.v),.sl false (d1.aB.map Fo.v),.sl false (d1.body.map Sm.v)]:=by
   rw[hd2,De.dJ,hd1,UC];rfl
  have Sv:d2.kind=d.kind:=by rw[hd2];rfl
  have hw:l[i].wr c.toPw (am eC) (am ts) (n+De.aJ (l.take i))=if d.kind=4 then d2.pr c.toPw (am eC) (n+De.aJ (l.take i)) else d2:=by rw[<-hd,De.Eb,hd2]
  have Ug:De.hs c.toPw (am eC) (am ts) (n+De.aJ (l.take i)) (De.hsl c.toPw (am eC) (am ts) n h (l.take i)) l[i]=if d.kind=4 then d2.Dj c.toPw (am eC) (n+De.aJ (l.take i)) (Ex.hsl c.toPw (am rp) false (De.hsl c.toPw (am eC) (am ts) n h (l.take i)) d.ak) else Ex.hsl c.toPw (am rp) false (De.hsl c.toPw (am eC) (am ts) n h (l.take i)) d.ak:=by rw[<-hd,De.hs_eq,hd2,UC]
  have hnb':l[i].nb=if d.kind=4 then d2.uH else 0:=by rw[<-hd,De.CU,hd2];rfl
  have fin:∀(F' D':Np) (X:St),Wk c w (n+De.aJ (l.take i)+l[i].nb) (De.hs c.toPw (am eC) (am ts) (n+De.aJ (l.take i)) (De.hsl c.toPw (am eC) (am ts) n h (l.take i)) l[i]) F' D' X->Stp w F D S F' D' X->Gw 7 S.length w F' D' ((De.aL c.toPw (am eC) (am ts) n (l.take i)).map De.v) gv X->
    ∃v' X',dY X 7 120 gv (.sl true [(l[i].wr c.toPw (am eC) (am ts) (n+De.aJ (l.take i))).v])=some (v',X')/\Gw 7 S.length w F' D' ((De.aL c.toPw (am eC) (am ts) n (l.take (i+1))).map De.v) v' X'/\Wk c w (n+De.aJ (l.take (i+1))) (De.hsl c.toPw (am eC) (am ts) n h (l.take (i+1))) F' D' X'/\Stp w F D S F' D' X':=fun F' D' X hk hs hg=>by
   obtain ⟨v',X',ha,hg3,hk3,hs4⟩:=hg.app1 ok (bytes:=120) (b:=true) hk hs (De.gn (l[i].wr c.toPw (am eC) (am ts) (n+De.aJ (l.take i)))) (by
    rw[bu,qav,km];omega)
   have hn1:(De.aL c.toPw (am eC) (am ts) n (l.take i)).map De.v++[(l[i].wr c.toPw (am eC) (am ts) (n+De.aJ (l.take i))).v]=(De.aL c.toPw (am eC) (am ts) n (l.take (i+1))).map De.v:=by
    rw[ht,De.Ec,cy];rfl
   have hn2:De.hs c.toPw (am eC) (am ts) (n+De.aJ (l.take i)) (De.hsl c.toPw (am eC) (am ts) n h (l.take i)) l[i]=De.hsl c.toPw (am eC) (am ts) n h (l.take (i+1)):=by
    rw[ht,De.qM];rfl
   rw[hn1]at hg3;rw[hn2,gj,<-hnb]at hk3;exact⟨v',X',ha,hg3,hk3,hs4⟩
  rw[hw]at fin;by_cases h2:d.kind=2
  all_goals
   simp[ae,b3,d1k,d1e,h2]
   refine aU (hexp _ (by rw[UB];first|(rw[ai h2];exact hsc2)|(rw[aj h2];exact hsc1))) ?_
   rintro r U4 ⟨rfl,F3,D3,k4,s4⟩
   have b4:=s4.at o3 b3
   have lU3:U.length<U3.length:=aM b3
   have o4:=o3.next lU3 s4
   have g4:=(g3.step s4).set (.arr [d2.v] 7 1) hg.lt
   have Ho:=(s3.trans s4).set (.arr [d2.v] 7 1) K5
   have k5:=k4.set ok (.arr [d2.v] 7 1) o4.1 o4.2.1 o4.2.2
   have b5:(U4.set U.length (.arr [d2.v] 7 1))[U.length]?=some (.arr [d2.v] 7 1):=bJ (aM b4)
   simp[ae,b4,aA,DX,aE]
   rw[<-qeM]
   generalize U4.set U.length (.arr [d2.v] 7 1)=U5 at g4 Ho k5 b5 |-
   by_cases h4:d.kind=4
   .have q:=qli c ok w d2 (by rw[hd2,hd];exact H l[i] hmem) (by rw[hd2,hd];exact hbl) (by rw[hd2,hd];exact hok l[i] hmem) (by rw[hd2,hd];show l[i].aB.length<=4000;omega) _ _ F3 D3 U5 v1 eC k5 (hsc1.step Ho) (by rw[ai h4]at hnb';omega);simp[ae,b5,Sv,h4];refine aU q ?_;rintro r U6 ⟨rfl,F4,D4,k6,s6⟩;have b6:=s6.at o4 b5;have lU5:U.length<U5.length:=aM b5;have o6:=o4.next lU5 s6;obtain⟨d3,hd3⟩:∃d3:De,d3=d2.pr c.toPw (am eC) (n+De.aJ (l.take i)):=⟨_,rfl⟩;rw[hnb',ai h4,Ug,ai h4,ai h4,<-hd3]at fin;rw[<-hd3];have g6:=(g4.step s6).set (.arr [d3.v] 7 1) hg.lt;have s56:=(Ho.trans s6).set (.arr [d3.v] 7 1) K5;have k7:=k6.set ok (.arr [d3.v] 7 1) o6.1 o6.2.1 o6.2.2;have b7:(U6.set U.length (.arr [d3.v] 7 1))[U.length]?=some (.arr [d3.v] 7 1):=bJ (aM b6);obtain⟨v',X',ha,hg3,hk3,hs4⟩:=fin F4 D4 _ k7 s56 g6;simp[ae,b6,aA,DX,aE];generalize U6.set U.length (.arr [d3.v] 7 1)=U7 at ha b7 |-;simp[ae,b7,De.gn,ha,bP i];refine⟨_,?_,_,?_,i+1,v',F4,D4,rfl,by omega,hg3,hk3,hs4,rfl⟩
    .omega
    .exact aN
   .rw[hnb',aj h4,Ug,aj h4,aj h4]at fin;obtain⟨v',X',ha,hg3,hk3,hs4⟩:=fin F3 D3 U5 k5 Ho g4;simp[ae,b5,Sv,h4,De.gn,ha,bP i];refine⟨_,?_,_,?_,i+1,v',F3,D3,rfl,by omega,hg3,hk3,hs4,rfl⟩
    .omega
    .exact aN
 rintro e U ⟨gv,F1,D1,g9,hg,hk1,hs1⟩;simp[g9];exact yJ ok rfl hg hk1 hs1 (by rw[<-iM,oc])
end Go.Proofs.YtbifpocccfkhhaaGreatDoor
