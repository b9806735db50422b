/- A part. -/
import Derived.Test.YtbifpocccfkhhaaGreatDoorWk
set_option linter.all false
namespace Go.Proofs.YtbifpocccfkhhaaGreatDoor
open Go Go.Proofs.Tryz
def Gs.app{w:Nat}{F D:Np}{xs:List Bz}{v:V}{S:St}(h:Gs w F xs v S)(hlt:∀l,F l\/D l->l<S.length)(hw:w<S.length)(x:Bz)(hr:(xs.length+1)*16<=2^47)(b:Bool):
  ∃v' S' F',dY S 1 16 v (.sl b [.str x])=some (v',S')/\Gs w F' (xs++[x]) v' S'/\S.length<=S'.length/\(∀l o,S[l]?=some o->(∀a b c,v≠.arr l a b c)->S'[l]?=some o)/\(∀l,F' l↔F l\/v=.sl true []/\l=S.length)/\(∀l,l<S.length->¬F l->S'[l]?=S[l]?)/\(∀l,F' l->l<S'.length)/\(v=.sl true []->v'=.arr S.length 0 1 1)/\(∀l a b c,v=.arr l a b c->v'=.arr l 0 (xs.length+1) (xs.length+1)):=by
 have hy:fits 1 [V.str x]=true:=rfl;rcases h with ⟨rfl,rfl⟩|⟨l,wr,h1,h2,rfl,h3,h4⟩
 .refine⟨.arr S.length 0 1 1,S++[.arr [.str x] 1 1],fun l=>F l\/l=S.length,?_,.inr ⟨S.length,1,.inr rfl,by omega,by simp,by simp,by simp⟩,by simp,fun l o h _=>gp h,fun l=>by simp,fun l hl _=>by rw[b8 hl],?_,fun _=>rfl,fun l a b c hh=>by cases hh⟩
  .unfold dY;rw[mh];have hc:true=true/\fits 1 [V.str x]=true/\(([]:List V).all fun v=>v.size==1)=true/\(([]:List V).length+[V.str x].length)*16<=2^47:=⟨rfl,hy,rfl,by simp⟩;show(if [V.str x].isEmpty=true then _ else _)=_;rw[aj sM,ai hc];simp
  .rintro l (hl|rfl)
   .have:=hlt l (.inl hl);simp;omega
   .simp
 .have hc:0=0/\xs.length=(xs.map V.str).length/\xs.length=(xs.map V.str).length/\1=1/\fits 1 [V.str x]=true/\((xs.map V.str).length+[V.str x].length)*16<=2^47:=⟨rfl,by simp,by simp,rfl,hy,by simpa using hr⟩;have hlt':l<S.length:=(aT.1 h3).1;refine⟨.arr l 0 (xs.length+1) (xs.length+1),S.set l (.arr (xs.map .str++[.str x]) 1 wr),F,?_,.inr ⟨l,wr,h1,h2,by simp,by rw[bJ hlt'];simp,by simp;omega⟩,by simp,fun k o ho hne=>?_,fun l=>by simp,fun k hk hn=>?_,fun k hk=>by have:=hlt k (.inl hk);simpa using this,fun hh=>(by cases hh),fun l a b c hh=>by cases hh;rfl⟩
  .unfold dY;rw[mh];show(match S[l]? with|_=>_)=_;rw[h3];show(if _ then _ else _)=_;rw[ai hc];simp
  .rw[bC (by rintro rfl;exact hne _ _ _ rfl)];exact ho
  .rw[bC (by rintro rfl;exact hn h1)]
def Rk.qa1{r:Rp}{bf bt:Bool}{w:Nat}{fv:V}{bound:List Bz}{st:bp}{F D:Np}{S:St}(h:Rk r bf bt w fv bound st F D S)(x:Bz)(hr:(bound.length+1)*16<=2^47)(b:Bool):
  ∃vb vf pj S' F',S[w]?=some (dK r bf bt fv vb vf st)/\dY S 1 16 vb (.sl b [.str x])=some (pj,S')/\S'[w]?=some (dK r bf bt fv vb vf st)/\pj.cells=[pj]/\pj.flat=true/\pj.size=1/\oY vb=some (.int .i64 bound.length)/\Rk r bf bt w fv (bound++[x]) st F' D (S'.set w (dK r bf bt fv pj vf st))/\Stp w F D S F' D (S'.set w (dK r bf bt fv pj vf st)):=by
 obtain⟨vb,vf,h1,h2,h3,h4⟩:=h.wx;obtain⟨pj,S',F',a1,a2,a3,a4,a5,a6,a7,a8,a9⟩:=h2.app h.lt h.lw x hr b;have Ul:=h.lw;have hw':S'[w]?=some (dK r bf bt fv vb vf st):=by rw[a6 w h.lw h.nF];exact h1
 have hset:∀l o,l≠w->S'[l]?=some o->(S'.set w (dK r bf bt fv pj vf st))[l]?=some o:=fun l o hl ho=>by rw[bC (Ne.symm hl)];exact ho
 have hFn:∀l,F' l->F l\/S.length<=l:=fun l hl=>((a5 l).1 hl).imp id fun hh=>by omega
 have hvf:Gs w F' st.free vf (S'.set w (dK r bf bt fv pj vf st)):=by
  rcases h3 with hh|⟨l,wr,z1,z2,z3,z4,z5⟩
  .exact .inl hh
  .refine .inr ⟨l,wr,(a5 l).2 (.inl z1),z2,z3,hset _ _ z2 (a4 l _ z4 fun a b c hh=>h4 l a b c hh _ _ _ z3),z5⟩
 obtain⟨f1,f2,f3,_⟩:=a2.flat;refine⟨vb,vf,pj,S',F',h1,a1,hw',f1,f2,f3,h2.flat.2.2.2,⟨⟨pj,vf,?_,?_,?_,?_⟩,?_,?_,?_,h.nD,?_,?_⟩,⟨?_,?_⟩,hFn,grow.refl _ _⟩
 .exact bJ oM
 .exact a2.keep fun l o hl ho=>hset _ _ (fun hh=>by subst hh;rcases hFn _ hl with hh|hh;exact h.nF hh;omega) ho
 .exact hvf
 .intro l a b c hb a' b' c' hf;rcases h2 with ⟨_,rfl⟩|⟨l0,wr,z1,z2,rfl,z4,z5⟩
  .rw[a8 rfl]at hb;cases hb;rcases h3 with ⟨_,hh⟩|⟨l1,dW,y1,y2,y3,y4,y5⟩
   .rw[hh]at hf;cases hf
   .rw[y3]at hf;cases hf;have:=aM y4;omega
  .rw[a9 _ _ _ _ rfl]at hb;cases hb;exact h4 _ _ _ _ rfl _ _ _ hf
 .exact h.fr.keep fun l o hl ho=>hset _ _ (fun hh=>h.nD (hh ▸ hl)) (by rw[a6 l (h.lt l (.inr hl)) (fun hf=>h.di l hf hl)];exact ho)
 .rintro l (hl|hl)
  .have:=a7 l hl;simpa using this
  .have:=h.lt l (.inr hl);simp;omega
 .intro hf;rcases hFn _ hf with hh|hh
  .exact h.nF hh
  .omega
 .intro l hl hd;rcases hFn _ hl with hh|hh
  .exact h.di l hh hd
  .have:=h.lt l (.inr hd);omega
 .simp;omega
 .simp;omega
 .intro l hl hn;rw[bC (fun hh=>hn (.inl hh.symm)),a6 l hl fun hf=>hn (.inr hf)]
def Rk.qa3{r:Rp}{bf bt:Bool}{w:Nat}{fv:V}{bound:List Bz}{st:bp}{F D:Np}{S:St}(h:Rk r bf bt w fv bound st F D S)(x:Bz)(hr:(st.free.length+1)*16<=2^47)(b:Bool):
  ∃vb vf mH S' F',S[w]?=some (dK r bf bt fv vb vf st)/\dY S 1 16 vf (.sl b [.str x])=some (mH,S')/\S'[w]?=some (dK r bf bt fv vb vf st)/\mH.cells=[mH]/\mH.flat=true/\mH.size=1/\Rk r bf bt w fv bound { st with free:=st.free++[x] } F' D (S'.set w (dK r bf bt fv vb mH st))/\Stp w F D S F' D (S'.set w (dK r bf bt fv vb mH st)):=by
 obtain⟨vb,vf,h1,h3,h2,h4⟩:=h.wx;obtain⟨mH,S',F',a1,a2,a3,a4,a5,a6,a7,a8,a9⟩:=h2.app h.lt h.lw x hr b;have Ul:=h.lw;have hw':S'[w]?=some (dK r bf bt fv vb vf st):=by rw[a6 w h.lw h.nF];exact h1
 have hset:∀l o,l≠w->S'[l]?=some o->(S'.set w (dK r bf bt fv vb mH st))[l]?=some o:=fun l o hl ho=>by rw[bC (Ne.symm hl)];exact ho
 have hFn:∀l,F' l->F l\/S.length<=l:=fun l hl=>((a5 l).1 hl).imp id fun hh=>by omega
 have hvf:Gs w F' bound vb (S'.set w (dK r bf bt fv vb mH st)):=by
  rcases h3 with hh|⟨l,wr,z1,z2,z3,z4,z5⟩
  .exact .inl hh
  .refine .inr ⟨l,wr,(a5 l).2 (.inl z1),z2,z3,hset _ _ z2 (a4 l _ z4 fun a b c hh=>h4 l _ _ _ z3 a b c hh),z5⟩
 obtain⟨f1,f2,f3,_⟩:=a2.flat;refine⟨vb,vf,mH,S',F',h1,a1,hw',f1,f2,f3,⟨⟨vb,mH,?_,?_,?_,?_⟩,?_,?_,?_,h.nD,?_,?_⟩,⟨?_,?_⟩,hFn,grow.refl _ _⟩
 .exact bJ oM
 .exact hvf
 .exact a2.keep fun l o hl ho=>hset _ _ (fun hh=>by subst hh;rcases hFn _ hl with hh|hh;exact h.nF hh;omega) ho
 .intro l a b c hb a' b' c' hf;rcases h2 with ⟨_,rfl⟩|⟨l0,wr,z1,z2,rfl,z4,z5⟩
  .rw[a8 rfl]at hf;cases hf;rcases h3 with ⟨_,hh⟩|⟨l1,dW,y1,y2,y3,y4,y5⟩
   .rw[hh]at hb;cases hb
   .rw[y3]at hb;cases hb;have:=aM y4;omega
  .rw[a9 _ _ _ _ rfl]at hf;cases hf;exact h4 _ _ _ _ hb _ _ _ rfl
 .exact h.fr.keep fun l o hl ho=>hset _ _ (fun hh=>h.nD (hh ▸ hl)) (by rw[a6 l (h.lt l (.inr hl)) (fun hf=>h.di l hf hl)];exact ho)
 .rintro l (hl|hl)
  .have:=a7 l hl;simpa using this
  .have:=h.lt l (.inr hl);simp;omega
 .intro hf;rcases hFn _ hf with hh|hh
  .exact h.nF hh
  .omega
 .intro l hl hd;rcases hFn _ hl with hh|hh
  .exact h.di l hh hd
  .have:=h.lt l (.inr hd);omega
 .simp;omega
 .simp;omega
 .intro l hl hn;rw[bC (fun hh=>hn (.inl hh.symm)),a6 l hl fun hf=>hn (.inr hf)]
def Rk.flag{r:Rp}{bf bt:Bool}{w:Nat}{fv:V}{bound:List Bz}{st:bp}{F D:Np}{S:St}(h:Rk r bf bt w fv bound st F D S)(b c:Bool):
  ∃vb vf,S[w]?=some (dK r bf bt fv vb vf st)/\vb.cells=[vb]/\vf.cells=[vf]/\Rk r bf bt w fv bound { st with bad:=b,caught:=c } F D (S.set w (dK r bf bt fv vb vf { st with bad:=b,caught:=c }))/\Stp w F D S F D (S.set w (dK r bf bt fv vb vf { st with bad:=b,caught:=c })):=by
 obtain⟨vb,vf,h1,h2,h3,h4⟩:=h.wx;have g:∀l o,l≠w->S[l]?=some o->(S.set w (dK r bf bt fv vb vf { st with bad:=b,caught:=c }))[l]?=some o:=fun l o hl ho=>by rw[bC (Ne.symm hl)];exact ho
 refine⟨vb,vf,h1,h2.flat.1,h3.flat.1,⟨⟨vb,vf,bJ h.lw,h2.keep fun l o hl=>g l o (fun hh=>h.nF (hh ▸ hl)),h3.keep fun l o hl=>g l o (fun hh=>h.nF (hh ▸ hl)),h4⟩,h.fr.keep fun l o hl=>g l o (fun hh=>h.nD (hh ▸ hl)),fun l hl=>by have:=h.lt l hl;simpa using this,h.nF,h.nD,h.di,by simpa using h.lw⟩,⟨(Kp.refl _ _).set _ (.inl (.inl rfl)),grow.refl _ _,grow.refl _ _⟩⟩
def Nr(w:Nat)(F D:Np)(names:List Bz)(v:V)(S:St):Prop:=(∃b,v=.sl b (names.map .str))\/∃l wr,er w F D l/\v=.arr l 0 names.length names.length/\S[l]?=some (.arr (names.map .str) 1 wr)/\wr<=names.length
def Nr.step{w:Nat}{F D F' D':Np}{names:List Bz}{v:V}{S U:St}(h:Nr w F D names v S)(s:Stp w F D S F' D' U):Nr w F' D' names v U:=by
 rcases h with h|⟨l,wr,h2,h3,h4,h5⟩
 .exact .inl h
 .exact .inr ⟨l,wr,h2.next (aM h4) s,h3,s.at h2 h4,h5⟩
def Nr.rd{w:Nat}{F D:Np}{names:List Bz}{v:V}{S:St}(h:Nr w F D names v S):Rd v names S:=by
 rcases h with ⟨b,rfl⟩|⟨l,wr,h1,rfl,h4,h5⟩
 .exact Rd.sl b names S
 .exact Rd.arr h4 h5
def Gw.other{sz n0 w:Nat}{F D:Np}{xs:List V}{v:V}{S U:St}(h:Gw sz n0 w F D xs v S)(hk:∀l o,S[l]?=some o->(∀a b c,v=.arr l a b c->U[l]?=some o)):Gw sz n0 w F D xs v U:=by
 rcases h with h|⟨l,wr,h1,h2,h3,h4,h5⟩
 .exact .inl h
 .exact .inr ⟨l,wr,h1,h2,h3,hk l _ h4 _ _ _ h3,h5⟩
def Gw.rd{n0 w:Nat}{F D:Np}{names:List Bz}{v:V}{S:St}(h:Gw 1 n0 w F D (names.map .str) v S):Rd v names S:=by
 rcases h with ⟨h1,rfl⟩|⟨l,wr,h1,h2,rfl,h4,h5⟩
 .rw[List.map_eq_nil_iff]at h1;subst h1;exact Rd.sl true [] S
 .rw[bu]at h5 |-;exact Rd.arr h4 h5
def qfL(s:bw)(x:Bz):eN x (s.map (·.1))=(bw.at s x).isSome:=by
 cases h:bw.at s x with
 |none=>
  rw[se.2]
  .rfl
  intro hm;obtain⟨e,he,rfl⟩:=cE.1 hm;exact IW.1 h e he rfl
 |some k=>
  rw[jv.2]
  .rfl
  unfold bw.at at h;rw[dL]at h;obtain⟨e,he,_⟩:=h;have h1:=List.find?_some he;simp only[cR]at h1;rw[<-h1];exact jO (AH he)
def wq(v u:V):Prop:=∀l a b c,v=.arr l a b c->∀a' b' c',u≠.arr l a' b' c'
structure Ei(r:Rp)(bf bt:Bool)(w:Nat)(fv:V)(bound:List Bz)(st:bp)(F D:Np)(S:St)(sc:ag)(names:List Bz)(nv:V)(i:Nat)(hv ov:V)(F' D':Np)(U:St):Prop where
 rk:Rk r bf bt w fv (bound++(ah (names.take i) bound.length).map (·.1)) st F' D' U
 st:Stp w F D S F' D' U
 had:Gw 1 S.length w F' D' (((ah (names.take i) bound.length).map (·.1)).map .str) hv U
 out:Gw 2 S.length w F' D' ((ag.flat sc++ah (names.take i) bound.length).map cz) ov U
 nr:Nr w F' D' names nv U
 df:wq hv ov
def EiL(r:Rp)(bf bt:Bool)(w:Nat)(fv:V)(bound:List Bz)(st:bp)(F D:Np)(S:St)(sc:ag)(names:List Bz)(nv:V)(j:Nat)(e:af)(U:St):Prop:=
 ∃(i:Nat) (hv ov:V) (F' D':Np),j=names.length-i/\i<=names.length/\Ei r bf bt w fv bound st F D S sc names nv i hv ov F' D' U/\e=[(9,.int .i64 i),(7,hv),(8,ov),(0,.ptr w 0 0 1),(2,nv)]
def EiE(r:Rp)(bf bt:Bool)(w:Nat)(fv:V)(bound:List Bz)(st:bp)(F D:Np)(S:St)(sc:ag)(names:List Bz)(nv:V)(e:af)(U:St):Prop:=
 ∃(hv ov:V) (F' D':Np),Ei r bf bt w fv bound st F D S sc names nv names.length hv ov F' D' U/\e.get 8=some ov
def qbF(l:bw):V.cr (l.map cz)=l.map cz:=xY (fun _=>rfl) l
def M3(r:Rp)(bf bt:Bool)(w:Nat)(fv:V)(bound:List Bz)(st:bp)(F D:Np)(S:St)(hk:Rk r bf bt w fv bound st F D S)(b:Bool)(sc:ag)(names:List Bz)(nv:V)(hnr:Nr w F D names nv S)
  (hl:(ag.flat sc).length+names.length<=100000) (hb:bound.length+names.length<=100000):
  au prog 162 [.ptr w 0 0 1,.sl b ((ag.flat sc).map cz),nv] S (fun v U=>i7 w (Rk r bf bt w fv (bound++bY names) st) F D S (.sl false ((ag.flat (ah names bound.length::sc)).map cz)) v U):=by
 refine au.ib OQ ?_;have fm:=Rk.jV r bf bt w fv bound st;have hfb:fits 2 ((ag.flat sc).map cz)=true:=by simp[fits,cz,V.size,V.cells,V.flat]
 obtain⟨ov,S1,ha,hg,hk1,hs1,_⟩:=(Gw.nil 2 S.length w F D S).A1 fm (bytes:=24) (x:=.sl b ((ag.flat sc).map cz)) hk (Stp.refl _ _ _ _) (mh _ _ _) hfb (by simp;omega);rw[eK]at hg;have hf0:fits 2 []=true:=rfl;simp[OQ,hf0,ha];refine du (EiE r bf bt w fv bound st F D S sc names nv) ?_ ?_
 .refine bN (EiL r bf bt w fv bound st F D S sc names nv) names.length _ ?_ ⟨0,.sl true [],ov,F,D,by simp,by omega,⟨by simpa[ah,binds]using hk1,hs1,by simpa[ah,binds]using Gw.nil 1 S.length w F D S1,by simpa[ah,binds]using hg,hnr.step hs1,fun l a b c hh=>by cases hh⟩,rfl⟩ ?_
  .exact aN
  rintro j e U ⟨i,hv,ov,F1,D1,rfl,hi,ei,rfl⟩;obtain⟨hlen,hrd⟩:=ei.nr.rd;by_cases hlt:i<names.length
  .obtain⟨p,hp1,hp2⟩:=hrd i hlt;have hsn:=wc names[i] (names.take i) bound.length;have hte:names.take i++[names[i]]=names.take (i+1):=by rw[cY,bI hlt];rfl
   rw[hte]at hsn;have hbl:=E5 names bound.length (names.length-i) i oM;have qni:=qbA names bound.length;have hin:=HE hv ((ah (names.take i) bound.length).map (·.1)) names[i] U (by rw[bu];omega) ei.had.rd;rw[qfL]at hin;simp[↓iU,hlen,hlt,hp1,hp2];refine aG hin ?_
   cases hat:(bw.at (ah (names.take i) bound.length) names[i]).isSome with
   |true=>
    rw[hat]at hsn;simp only[if_true]at hsn;simp[bP i];refine⟨_,?_,_,?_,i+1,hv,ov,F1,D1,rfl,by omega,⟨by rw[hsn];exact ei.rk,ei.st,by rw[hsn];exact ei.had,by rw[hsn];exact ei.out,ei.nr,ei.df⟩,rfl⟩
    .omega
    .exact aN
   |false=>
    rw[hat]at hsn;simp only[iz,if_false]at hsn;have TG:=Rk.jV r bf bt w fv (bound++(ah (names.take i) bound.length).map (·.1)) st;have hfs:fits 1 [V.str names[i]]=true:=rfl;obtain⟨hv',U1,a1,a2,a3,a4,a5,a6⟩:=ei.had.pQ TG (bytes:=16) (b:=true) (y:=.str names[i]) ei.rk ei.st hfs (by simp;omega);have out1:Gw 2 S.length w F1 D1 ((ag.flat sc++ah (names.take i) bound.length).map cz) ov U1:=ei.out.other fun l o ho a b c hov=>a5 l o ho fun a' b' c' hh=>ei.df l a' b' c' hh a b c hov
    have nr1:=hnr.step a4;obtain⟨hlen1,Kv⟩:=nr1.rd;obtain⟨p',hq1,hq2⟩:=Kv i hlt;obtain⟨vb,vf,r0,_⟩:=uJ a3
    have hlb:oY vb=some (.int .i64 (bound.length+(ah (names.take i) bound.length).length:Nat)):=by
     obtain⟨vb2,vf2,h1,h2,_⟩:=a3.wx;unfold dK at h1;have:vb=vb2:=by simpa[ae,h1,h2.flat.1]using r0.symm
     rw[this,h2.flat.2.2.2];simp
    have hfe:fits 2 [cz (names[i],bound.length+(ah (names.take i) bound.length).length)]=true:=rfl;obtain⟨V1,U2,b1,b2,b3,b4,b5,b6⟩:=out1.pQ TG (bytes:=24) (b:=true) (y:=cz (names[i],bound.length+(ah (names.take i) bound.length).length)) a3 a4 hfe (by simp;omega);have dlt:=a2.lt;have olt:=ei.out.lt;have hlt0:=ei.had.lt
    have SH:wq hv' ov:=fun l a b c hh a' b' c' ho=>by
     rcases a6 l a b c hh with h1|h1
     .exact ei.df l _ _ _ h1 a' b' c' ho
     .have:=olt l a' b' c' ho;omega
    have qeD:Gw 1 S.length w F1 D1 (((ah (names.take i) bound.length).map (·.1)).map .str++[.str names[i]]) hv' U2:=a2.other fun l o ho a b c hh=>b5 l o ho fun a' b' c' ho'=>SH l a b c hh a' b' c' ho'
    have nr2:=hnr.step b4;obtain⟨hlen2,qfc⟩:=nr2.rd;obtain⟨p2,hs1',hs2'⟩:=qfc i hlt;obtain⟨wb,wf,wb',U3,F2,c1,c2,c3,c4,c5,c6,c7,c8,c9⟩:=b3.qa1 names[i] (by simp;omega) true
    have df2:wq hv' V1:=fun l a b c hh a' b' c' ho=>by
     rcases b6 l a' b' c' ho with h1|h1
     .exact SH l a b c hh _ _ _ h1
     .have:=dlt l a b c hh;omega
    have hn1:bound++(ah (names.take (i+1)) bound.length).map (·.1)=bound++(ah (names.take i) bound.length).map (·.1)++[names[i]]:=by rw[hsn,cy,cO];rfl
    have hn2:((ah (names.take (i+1)) bound.length).map (·.1)).map V.str=((ah (names.take i) bound.length).map (·.1)).map .str++[.str names[i]]:=by rw[hsn,cy,cy];rfl
    have hn3:(ag.flat sc++ah (names.take (i+1)) bound.length).map cz=(ag.flat sc++ah (names.take i) bound.length).map cz++[cz (names[i],bound.length+(ah (names.take i) bound.length).length)]:=by rw[hsn,<-cO,cy];rfl
    have c1':=c1;have c3':=c3;unfold dK at c1' c3';have hbu:bj (.agg [.str ⟨⟨[]⟩⟩,.int .i64 0]) [(0,1,.str names[i]),(1,1,.int .i64 ((bound.length+(ah (names.take i) bound.length).length:Nat):Int))]=some (cz (names[i],bound.length+(ah (names.take i) bound.length).length)):=by simp[bj,aE,cz]
    have hwb:ae U2 (.ptr w 0 0 1) none=some wb:=by
     have:wb.cells=wb.cells:=rfl;simp[ae,c1']
    push_cast at hbu;simp[hp1,hp2,hfs,a1,cF,↓iU,hq1,hq2,r0,hlb,bz,hbu,hfe,b1];refine mg rfl rfl ?_;simp[cF,hwb,hs1',hs2',hfs,c2,aA,c3',aE,c4,c5,c6];refine mg rfl rfl ?_;simp[bP i];refine⟨_,?_,_,?_,i+1,hv',V1,F2,D1,rfl,by omega,⟨by rw[hn1];exact c8,b4.trans c9,by rw[hn2];exact qeD.step c9,by rw[hn3];exact b2.step c9,hnr.step (b4.trans c9),df2⟩,rfl⟩
    .omega
    .exact aN
  .have:i=names.length:=by omega
   subst this;simp[↓iU,hlen];exact⟨hv,ov,F1,D1,ei,rfl⟩
 rintro e U ⟨hv,ov,F1,D1,ei,g8⟩;simp[g8];have h1:=ei.out;have h2:=ei.rk;rw[eR]at h1 h2;have hnm:(ah names bound.length).map (·.1)=bY names:=by unfold bY;exact yq 0 names [] [] _ _ rfl
 rw[hnm]at h2;exact Bn (Rk.jV r bf bt w fv (bound++bY names) st) rfl h1 h2 ei.st (by rw[<-iM,qbF];rfl)
structure pL(r:Rp):Prop where
 le:r.mj.length<=r.to.length
 small:r.to.length<=1000000
def VC:∀(fs:List Bz) (es:List Ex) (x:Bz),(∀f,f∈fs->f≠x)->mU fs es x=none
 |[],_,_,_=>by simp[mU]
 |f::fs,[],_,_=>by simp[mU]
 |f::fs,e::es,x,h=>by
  rw[mU,aj (h f (tH ..))];exact VC fs es x fun g hg=>h g (mc _ hg)
def VE:∀(fs:List Bz) (es:List Ex) (x:Bz) (i:Nat) (hi:i<fs.length) (hj:i<es.length),fs[i]=x->(∀j,(h:j<fs.length)->j<i->fs[j]≠x)->mU fs es x=some es[i]
 |f::fs,e::es,x,0,_,_,h,_=>by rw[mU,ai (by simpa using h)];rfl
 |f::fs,e::es,x,i+1,hi,hj,h,g=>by
  rw[mU,aj (by have:=g 0 sM oM;simpa using this)]
  exact VE fs es x i (by simpa using hi) (by simpa using hj) (by simpa using h) fun j hj' hji=>by
   have:=g (j+1) (by simpa using hj') oM;simpa using this
def Rk.qiz{r:Rp}{bf bt:Bool}{w:Nat}{fv:V}{bound:List Bz}{st:bp}{F D:Np}{S:St}(h:Rk r bf bt w fv bound st F D S)(c:Bool):
  ∃U,aA S (.ptr w 0 6 1) 1 (.bool c)=some U/\Rk r bf bt w fv bound { st with caught:=c } F D U/\Stp w F D S F D U:=by
 obtain⟨vb,vf,h1,h2,h3,h4,h5⟩:=h.flag st.bad c;refine⟨_,?_,h4,h5⟩;obtain⟨_,_,hw,g1,g2,_⟩:=h.wx;rw[hw]at h1;unfold dK at hw h1 |-;simp only[Option.some.injEq,Ob.arr.injEq,List.cons.injEq,V.agg.injEq]at h1;obtain⟨⟨⟨rfl,rfl,_⟩,_⟩,_⟩:=h1;simp[aA,hw,aE]
def Rk.L6{r:Rp}{bf bt:Bool}{w:Nat}{fv:V}{bound:List Bz}{st:bp}{F D:Np}{S:St}(h:Rk r bf bt w fv bound st F D S)(c:Bool):
  ∃U,aA S (.ptr w 0 5 1) 1 (.bool c)=some U/\Rk r bf bt w fv bound { st with bad:=c } F D U/\Stp w F D S F D U:=by
 obtain⟨vb,vf,h1,h2,h3,h4,h5⟩:=h.flag c st.caught;refine⟨_,?_,h4,h5⟩;obtain⟨_,_,hw,g1,g2,_⟩:=h.wx;rw[hw]at h1;unfold dK at hw h1 |-;simp only[Option.some.injEq,Ob.arr.injEq,List.cons.injEq,V.agg.injEq]at h1;obtain⟨⟨⟨rfl,rfl,_⟩,_⟩,_⟩:=h1;simp[aA,hw,aE]
abbrev eI:V:=.agg [.int .i64 0,.int .i64 0,.int .i64 0,.int .i64 0,.int .i64 0,.str ⟨⟨[]⟩⟩,.sl true []]
def Tm:eI.weak=Ex.z.v:=by simp only[eI,V.weak,V.cr,Ex.dJ];rfl
theorem Tj:V.part eI 0 (some 7)=some eI:=rfl
def yM(y:V)(h:y.size=7)(hf:y.cells.all V.flat=true):V.upd eI 0 7 y=some y:=by unfold eI;rw[aE];simp[h,hf]
def sY(r:Rp)(sc:ag)(x:Bz):V:=.aH [.str (match jZ r sc x with|some _=>x|none=>cN r sc x),(match jZ r sc x with|some e=>e.v|none=>Ex.z.v),.bool (jZ r sc x).isSome]
def nA(e:Ex)(sc:ag)(k:Nat):Bool:=decide (e.kind=6)&&((ag.flat sc).take k).any fun p=>decide (p.1=e.text)
def qb8(e:Ex)(sc:ag):nA e sc 0=false:=by simp[nA]
def qb7(e:Ex)(sc:ag)(k:Nat)(h:k<(ag.flat sc).length):nA e sc (k+1)=(nA e sc k||(decide (e.kind=6)&&decide ((ag.flat sc)[k].1=e.text))):=by
 unfold nA;rw[cY,bI h,gZ,yg];simp only[List.any_cons,List.any_nil,i5];cases decide (e.kind=6)<;>simp
def qb6(e:Ex)(sc:ag):nA e sc (ag.flat sc).length=(decide (e.kind=6)&&(ag.flat sc).any fun p=>decide (p.1=e.text)):=by
 unfold nA;rw[eR]
def Zp(r:Rp)(ho:pL r)(bf bt:Bool)(w:Nat)(fv:V)(bound:List Bz)(st:bp)(F D:Np)(S:St)(hk:Rk r bf bt w fv bound st F D S)(b:Bool)(sc:ag)(hd:nw sc)(hl:(ag.flat sc).length<=1000000)(x:Bz)(hfl:st.free.length<=1000000):
  au prog 143 [.ptr w 0 0 1,.sl b ((ag.flat sc).map cz),.str x] S (fun v U=>i7 w (Rk r bf bt w fv bound (jx r sc x st)) F D S (sY r sc x) v U):=by
 refine au.ib OA ?_;obtain⟨S1,hS1⟩:∃S1:St,S1=S++[.arr [eI] 7 1]:=⟨_,rfl⟩;have fm:=Rk.jV r bf bt w fv bound st;have k1:Rk r bf bt w fv bound st F D S1:=by rw[hS1];exact fm.push hk _
 have s1:Stp w F D S F D S1:=by rw[hS1];exact(Stp.refl _ _ _ _).push _
 have b1:S1[S.length]?=some (.arr [eI] 7 1):=by rw[hS1];simp
 have o1:er w F D S.length:=fm.out hk bL;have fin:∀(st':bp) (F' D':Np) (U:St) (y:Bz) (ev:V) (z:Ex) (is:Bool) (e:af),Rk r bf bt w fv bound st' F' D' U->Stp w F D S F' D' U->U[S.length]?=some (.arr [eI] 7 1)->er w F' D' S.length->ev.weak=z.v->
   V.part ev 0 (some 7)=some ev->e.get 6=some (.str y)->e.get 7=some (.ptr S.length 0 0 1)->e.get 8=some (.bool is)->
   eH [.t 6,.cell 7 (some 7),.t 8] S.length (fun v U=>i7 w (Rk r bf bt w fv bound st') F D S (.aH [.str y,z.v,.bool is]) v U) .ret e (U.set S.length (.arr [ev] 7 1)):=fun st' F' D' U y ev z is e hk' hs' hb ho' hw hp g6 g7 g8=>by
  have hset:(U.set S.length (.arr [ev] 7 1))[S.length]?=some (.arr [ev] 7 1):=bJ (aM hb);refine⟨[.str y,ev,.bool is],by simp[dm,g6,g7,g8,ae,hset,hp],_,_,cK.weak,?_,F',D',(Rk.jV r bf bt w fv bound st').set hk' _ ho',hs'.set _ bL⟩;simp only[aK,V.weak,V.cr,hw]
 have rY:jx r sc x st=match sc.at x with
  |some _=>st
  | none=>{ free:=st.free++[x],bad:=st.bad,caught:=st.caught || (match mt r x with
   |some e=>decide (e.kind=6)&&(ag.flat sc).any fun p=>decide (p.1=e.text)
   |none=>false) }:=rfl
 have hrm:jZ r sc x=match sc.at x with
  |some _=>none
  |none=>mt r x:=rfl
 have hrr:cN r sc x=match sc.at x with
  |some k=>(r.fresh[k]?).getD x
  |none=>x:=rfl
 simp[OA];show Ab _ _ _ (S++[.arr [eI] 7 1]) _;rw[<-hS1];refine aG (Zv _ b x hl S1) ?_;unfold Df;rw[JM sc x hd]
 cases hat:sc.at x with
 |some k=>
  rw[hat]at rY hrm;simp only at rY hrm;have hu:sY r sc x=.aH [.str (cN r sc x),Ex.z.v,.bool false]:=by unfold sY;rw[hrm];rfl
  rw[rY,hu];have hk0:(0:Int)<=k:=by omega
  simp[hk0];refine aG (HB r bf bt w fv bound st F D S1 k1 b sc hd hl x) ?_;have hbu:bj eI []=some eI:=rfl;unfold eI at hbu;simp[bz,hbu];have hst:aA S1 (.ptr S.length 0 0 1) 7 eI=some (S1.set S.length (.arr [eI] 7 1)):=by simp[aA,b1,yM eI rfl rfl]
  unfold eI at hst;simp[hst];exact fin st F D S1 (cN r sc x) eI Ex.z false _ k1 s1 b1 o1 Tm Tj rfl rfl rfl
 |none=>
  rw[hat]at rY hrm hrr;simp only at rY hrm hrr;obtain⟨vb,vf,mH,U1,F1,a1,a2,a3,a4,a5,a6,k2,s2⟩:=k1.qa3 x oM true;have hfs:fits 1 [V.str x]=true:=rfl;obtain⟨U2,cA⟩:∃U2,U2=U1.set w (dK r bf bt fv vb mH st):=⟨_,rfl⟩;rw[<-cA]at k2 s2;have hlf:ae S1 (.ptr w 0 1 1) none=some vf:=by unfold dK at a1;simp[ae,a1]
  have hst:aA U1 (.ptr w 0 1 1) 1 mH=some U2:=by
   rw[cA];unfold dK at a3 |-;simp[aA,a3,aE,a4,a5,a6]
  have s3:=s1.trans s2;have b2:=s2.at o1 b1;have o2:=o1.next (aM b1) s2;simp[cF,hlf,hfs,a2,hst];refine du (fun e U=>mt r x=none/\U=U2/\e.get 0=some (.ptr w 0 0 1)/\e.get 2=some (.str x)/\e.get 7=some (.ptr S.length 0 0 1)) ?_ ?_
  ·refine bN (fun j e U=>∃i:Nat,j=r.mj.length - i∧i≤r.mj.length∧(∀j,(h:j<r.mj.length)→j<i→r.mj[j]≠x)∧U=U2∧
    e=[(9,.int .i64 i),(0,.ptr w 0 0 1),(1,.sl b ((ag.flat sc).map cz)),(2,.str x),(7,.ptr S.length 0 0 1)]) r.mj.length _ ?_ ⟨0,by simp,by omega,by omega,rfl,rfl⟩ ?_
   .exact aN
   rintro j e U ⟨i,rfl,hi,hno,rfl,rfl⟩;obtain⟨_,_,r0,r1,r2,r3,r4,r5,r6⟩:=uJ k2;by_cases hlt:i<r.mj.length
   .have hia:=jb hlt bf U;by_cases heq:r.mj[i]=x
    .have hj:i<r.to.length:=by have:=ho.le;omega
     have hmt:mt r x=some r.to[i]:=VE r.mj r.to x i hlt hj heq hno;have hu:sY r sc x=.aH [.str x,r.to[i].v,.bool true]:=by unfold sY;rw[hrm,hmt];rfl
     rw[hu,rY,hmt];rw[heq]at hia;simp[cF,r3,hlt,hia];obtain⟨y,hy⟩:∃y,y=r.to[i]:=⟨_,rfl⟩;rw[<-hy];refine du (fun e U=>∃F' D',Rk r bf bt w fv bound { free:=st.free++[x],bad:=st.bad,caught:=st.caught||nA y sc (ag.flat sc).length } F' D' U/\Stp w F D S F' D' U/\U[S.length]?=some (.arr [eI] 7 1)/\er w F' D' S.length/\e.get 0=some (.ptr w 0 0 1)/\e.get 2=some (.str x)/\e.get 7=some (.ptr S.length 0 0 1)/\e.get 9=some (.int .i64 i)) ?_ ?_
     ·refine bN (fun j e U=>∃(k:Nat) (F' D':Np),j=(ag.flat sc).length - k∧k≤(ag.flat sc).length∧Rk r bf bt w fv bound { free:=st.free++[x],bad:=st.bad,caught:=st.caught || nA y sc k } F' D' U∧Stp w F D S F' D' U∧U[S.length]?=some (.arr [eI] 7 1)∧er w F' D' S.length∧
       e=[(10,.int .i64 k),(9,.int .i64 i),(0,.ptr w 0 0 1),(1,.sl b ((ag.flat sc).map cz)),(2,.str x),(7,.ptr S.length 0 0 1)]) (ag.flat sc).length _ ?_ ⟨0,F1,D,by simp,by omega,by rw[qb8,i5];exact k2,s3,b2,o2,rfl⟩ ?_
      .exact aN
      rintro j e U ⟨k,F3,D3,rfl,hk',kU,sU,bU,oU,rfl⟩;obtain⟨_,_,q0,q1,q2,q3,q4,q5,q6⟩:=uJ kU;by_cases hlk:k<(ag.flat sc).length
      .have hib:=KI hlk b U;have hie:=mP hj bt U;rw[<-hy]at hie;obtain⟨U4,p1,p2,p3⟩:=kU.qiz (st.caught||nA y sc (k+1));have hcs:=qb7 y sc k hlk;have hbn:V.part (cz (ag.flat sc)[k]) 0 none=some (.str (ag.flat sc)[k].1):=rfl;have IY:=p3.at oU bU;have LO:=oU.next (aM bU) p3;simp only at q6
       cases hc:(st.caught||nA y sc k) with
       |true=>
        have hc1:(st.caught||nA y sc (k+1))=true:=by rw[hcs,<-jg,hc,Bool.true_or]
        rw[hc]at q6;rw[hc1]at p1;simp[hlk,cF,q6,p1];refine mg rfl rfl ?_;simp[bP k];refine⟨_,?_,_,?_,k+1,rfl,by omega,F3,D3,p2,sU.trans p3,IY,LO,rfl⟩
        .omega
        .exact aN
       |false=>
        rw[hc]at q6;have hc1:(st.caught||nA y sc (k+1))=(decide (y.kind=6)&&decide ((ag.flat sc)[k].1=y.text)):=by rw[hcs,<-jg,hc,Ak]
        rw[hc1]at p1;by_cases h6:y.kind=6
        .simp[h6]at p1;simp[hlk,cF,q6,q4,hie,hib,hbn,h6,p1];refine mg rfl rfl ?_;simp[bP k];refine⟨_,?_,_,?_,k+1,rfl,by omega,F3,D3,p2,sU.trans p3,IY,LO,rfl⟩
         .omega
         .exact aN
        .simp[h6]at p1;simp[hlk,cF,q6,q4,hie,h6,p1];refine mg rfl rfl ?_;simp[bP k];refine⟨_,?_,_,?_,k+1,rfl,by omega,F3,D3,p2,sU.trans p3,IY,LO,rfl⟩
         .omega
         .exact aN
      .have:k=(ag.flat sc).length:=by omega
       subst this;simp;exact⟨F3,D3,kU,sU,bU,oU⟩
     rintro e U ⟨F3,D3,kU,sU,bU,oU,g0,g2,g7,g9⟩;obtain⟨_,_,q0,q1,q2,q3,q4,q5,q6⟩:=uJ kU;have hie:=mP hj bt U;rw[<-hy]at hie;have hst2:aA U (.ptr S.length 0 0 1) 7 y.v=some (U.set S.length (.arr [y.v] 7 1)):=by simp[aA,bU,yM y.v (Ex.eP y) sM]
     simp[g0,g2,g7,g9,cF,q4,hie,hst2];refine mg rfl rfl ?_;rw[qb6]at kU;simp;exact fin _ F3 D3 U x y.v y true _ kU sU bU oU (Ex.iZ y) (G3 y) rfl g7 rfl
    .simp[cF,r3,hlt,hia,heq,dP (n:=(i:Int)+1) (by have:=ho.le;have:=ho.small;omega) (by have:=ho.le;have:=ho.small;omega)];refine⟨_,?_,_,?_,i+1,rfl,by omega,fun j hj hji=>?_,rfl⟩
     .omega
     .exact aN
     .by_cases hj':j=i
      .subst hj';exact heq
      .exact hno j hj oM
   .simp[cF,r3,hlt];refine VC _ _ _ fun f hf=>?_
    obtain⟨j,hj,rfl⟩:=pH hf;exact hno j hj oM
  rintro e U ⟨hmt,rfl,g0,g2,g7⟩;have hu:sY r sc x=.aH [.str x,Ex.z.v,.bool false]:=by unfold sY;rw[hrm,hmt,hrr];rfl
  rw[hmt]at rY;simp only[i5]at rY;rw[hu,rY];have hbu:bj eI []=some eI:=rfl;have hst2:aA U (.ptr S.length 0 0 1) 7 eI=some (U.set S.length (.arr [eI] 7 1)):=by simp[aA,b2,yM eI rfl rfl]
  unfold eI at hbu hst2;simp[g2,g7,bz,hbu,hst2];exact fin _ F1 D U x eI Ex.z false _ k2 s3 b2 o2 Tm Tj rfl g7 rfl
def YF(r:Rp)(sc:ag)(x:Bz)(st:bp):(jx r sc x st).free.length<=st.free.length+1:=by
 unfold jx;cases sc.at x<;>simp
def Hk(r:Rp)(sc:ag)(x:Bz)(st:bp):(jl r sc x st).free.length<=st.free.length+1:=YF r sc x st
def zQ{α:Type}(f:α->Pa)(l:List α)(i:Nat)(h:i<l.length):aY ((l.take i).map f)+(f l[i]).size<=aY (l.map f):=by
 have h1:=lA i l;rw[rF h]at h1;have h2:=congrArg (fun m=>aY (m.map f)) h1;simp only[cy,b9,pf,fq]at h2;omega
mutual
theorem Ex.uM(r:Rp)(sc:ag):∀(x:Ex) (st:bp),(x.rs r sc st).free.length<=st.free.length+(Pa.ex x).size
 |.mk k o n m e t a,st=>by
  have hsz:(Pa.ex (.mk k o n m e t a)).size=1+aY (a.map Pa.ex):=by rw[Pa.size_eq];rfl
  rw[Ex.rs];split
  .have:=YF r sc t st;omega
  .have h1:=Ex.iq r sc a (if k=7\/k=8 then jl r sc t st else st)
   have h2:(if k=7\/k=8 then jl r sc t st else st).free.length<=st.free.length+1:=by
    split
    .exact Hk r sc t st
    .omega
   omega
theorem Ex.iq(r:Rp)(sc:ag):∀(l:List Ex) (st:bp),(Ex.aP r sc st l).free.length<=st.free.length+aY (l.map Pa.ex)
 |[],st=>by simp[Ex.aP]
 |x::l,st=>by
  have h1:=Ex.uM r sc x st;have h2:=Ex.iq r sc l (x.rs r sc st);simp only[Ex.aP,b9,fq];omega
end
def Zq(r:Rp)(ho:pL r)(bf bt:Bool)(w:Nat)(fv:V)(bound:List Bz)(st:bp)(F D:Np)(S:St)(hk:Rk r bf bt w fv bound st F D S)(b:Bool)(sc:ag)(hd:nw sc)(hl:(ag.flat sc).length<=1000000)(x:Bz)(hfl:st.free.length<=1000000):
  au prog 144 [.ptr w 0 0 1,.sl b ((ag.flat sc).map cz),.str x] S (fun v U=>i7 w (Rk r bf bt w fv bound (jl r sc x st)) F D S (.str (j0 r sc x)) v U):=by
 refine au.ib OB ?_;have hS:jl r sc x st={ jx r sc x st with bad:=(jx r sc x st).bad||(match jZ r sc x with|some e=>!decide (e.kind=6)|none=>false) }:=rfl;have hT:j0 r sc x=match jZ r sc x with|some e=>if e.kind=6 then e.text else x|none=>cN r sc x:=rfl
 rw[hS,hT];simp[OB];refine aU (Zp r ho bf bt w fv bound st F D S hk b sc hd hl x hfl) ?_;rintro v U ⟨rfl,F1,D1,k1,s1⟩;generalize jx r sc x st=st1 at k1 |-;unfold sY
 cases hm:jZ r sc x with
 |some e=>
  obtain⟨U2,cA⟩:∃U2,U2=U++[.arr [e.v] 7 1]:=⟨_,rfl⟩;have k2:Rk r bf bt w fv bound st1 F1 D1 U2:=by rw[cA];exact(Rk.jV _ _ _ _ _ _ _).push k1 _
  have s2:Stp w F D S F1 D1 U2:=by rw[cA];exact s1.push _
  have c2:U2[U.length]?=some (.arr [e.v] 7 1):=by rw[cA];simp
  simp[aC,aZ,aA,aE];rw[<-cA];by_cases h6:e.kind=6
  .simp[ae,c2,h6];exact aS rfl ⟨rfl,F1,D1,k2,s2⟩
  .obtain⟨_,_,q0,q1,q2,q3,q4,q5,q6⟩:=uJ k2;obtain⟨U3,p1,p2,p3⟩:=k2.L6 true;have h0:ae U2 (.ptr U.length 0 0 1) none=some (.int .i64 e.kind):=by simp[ae,c2]
   have hb:(st1.bad||!decide (e.kind=6))=true:=by simp[h6]
   rw[hb]
   cases hbad:st1.bad with
   |true=>
    rw[hbad]at q5;simp[h0,h6,cF,q5,p1];exact aS rfl ⟨rfl,F1,D1,p2,s2.trans p3⟩
   |false=>
    rw[hbad]at q5;simp[h0,h6,cF,q5,p1];exact aS rfl ⟨rfl,F1,D1,p2,s2.trans p3⟩
 |none=>
  obtain⟨U2,cA⟩:∃U2,U2=U++[.arr [Ex.z.v] 7 1]:=⟨_,rfl⟩;have k2:Rk r bf bt w fv bound st1 F1 D1 U2:=by rw[cA];exact(Rk.jV _ _ _ _ _ _ _).push k1 _
  have s2:Stp w F D S F1 D1 U2:=by rw[cA];exact s1.push _
  simp[aC,aZ,aA,aE];rw[<-cA];obtain⟨_,_,q0,q1,q2,q3,q4,q5,q6⟩:=uJ k2;obtain⟨U3,p1,p2,p3⟩:=k2.L6 st1.bad
  cases hbad:st1.bad with
  |true=>
   rw[hbad]at q5 p1 p2;simp[cF,q5,p1];exact aS rfl ⟨rfl,F1,D1,p2,s2.trans p3⟩
  |false=>
   rw[hbad]at q5 p1 p2;simp[cF,q5,p1];exact aS rfl ⟨rfl,F1,D1,p2,s2.trans p3⟩
def Is(r:Rp)(bf bt:Bool)(w:Nat)(fv:V)(x:Ex):Prop:=∀(bound:List Bz) (st:bp) (F D:Np) (S:St) (b:Bool) (sc:ag),Rk r bf bt w fv bound st F D S->nw sc->(ag.flat sc).length<=1000000->st.free.length+(Pa.ex x).size<=1000000->
 au prog 92 [.ptr w 0 0 1,x.v,.sl b ((ag.flat sc).map cz)] S (fun v U=>i7 w (Rk r bf bt w fv bound (x.rs r sc st)) F D S (x.rw r sc).v v U)
def Zr(r:Rp)(bf bt:Bool)(w:Nat)(fv:V)(l:List Ex)(H:∀x,x∈l->Is r bf bt w fv x)(hl:l.length<=4000)(bound:List Bz)(st:bp)(F D:Np)(S:St)(bl b:Bool)(sc:ag)(hk:Rk r bf bt w fv bound st F D S)(hd:nw sc)(hf:(ag.flat sc).length<=1000000)(hs:st.free.length+aY (l.map Pa.ex)<=1000000):
  au prog 145 [.ptr w 0 0 1,.sl bl (l.map Ex.v),.sl b ((ag.flat sc).map cz)] S (fun v U=>i7 w (Rk r bf bt w fv bound (Ex.aP r sc st l)) F D S (.sl false ((Ex.bk r sc l).map Ex.v)) v U):=by
 refine au.ib OC ?_;simp[OC];refine du (ER w 7 F D S (Rk r bf bt w fv bound (Ex.aP r sc st l)) 7 ((Ex.bk r sc l).map Ex.v)) ?_ ?_
 ·refine bN (EK w 7 F D S l.length (fun i=>Rk r bf bt w fv bound (Ex.aP r sc st (l.take i))) (fun i=>(Ex.bk r sc (l.take i)).map Ex.v)
   (fun i gv=>[(8,.int .i64 i),(7,gv),(0,.ptr w 0 0 1),(1,.sl bl (l.map Ex.v)),(2,.sl b ((ag.flat sc).map cz))])) l.length _ ?_ ⟨0,_,F,D,by simp,by omega,Gw.nil _ _ _ _ _ _,hk,Stp.refl _ _ _ _,rfl⟩ ?_
  .exact aN
  rintro j e U ⟨i,gv,F1,D1,rfl,hi,hg,hk1,hs1,rfl⟩;dsimp only at hg hk1;by_cases hlt:i<l.length
  .have hst:=zQ Pa.ex l i hlt;have hrl:=Ex.iq r sc (l.take i) st;simp[hlt,mP];refine aU (H l[i] (cI hlt) bound _ F1 D1 U b sc hk1 hd hf oM) ?_;rintro v U2 ⟨rfl,F2,D2,hk2,hs2⟩;have hg2:=hg.step hs2;have hs3:=hs1.trans hs2;obtain⟨v',U3,ha,hg3,hk3,hs4,_⟩:=hg2.pQ (Rk.jV r bf bt w fv bound _) (bytes:=80) (b:=true) hk2 hs3 (Ex.gn (l[i].rw r sc)) (by rw[bu,Ex.Dx,bu,km];omega)
   have hn:(Ex.bk r sc (l.take i)).map Ex.v++[(l[i].rw r sc).v]=(Ex.bk r sc (l.take (i+1))).map Ex.v:=by
    rw[Ex.Dx,Ex.Dx,cY,bI hlt,gZ,cy,cy];rfl
   have hn2:Ex.rs r sc (Ex.aP r sc st (l.take i)) l[i]=Ex.aP r sc st (l.take (i+1)):=by
    rw[cY,bI hlt,gZ,Ex.ri];rfl
   rw[hn]at hg3;rw[hn2]at hk3;simp[Ex.gn,ha,bP i];refine⟨_,?_,_,?_,i+1,v',F2,D2,rfl,by omega,hg3,hk3,hs4,rfl⟩
   .omega
   .exact aN
  .have:i=l.length:=by omega
   subst this;simp only[eR]at hg hk1;simp;exact⟨gv,F1,D1,rfl,hg,hk1,hs1⟩
 rintro e U ⟨gv,F1,D1,g9,hg,hk1,hs1⟩;simp[g9];exact Bn (Rk.jV _ _ _ _ _ _ _) rfl hg hk1 hs1 (by rw[<-iM,jq])
def Ex.Du(r:Rp)(sc:ag)(st:bp)(x:Ex):x.rs r sc st=if x.kind=6 then jx r sc x.text st else Ex.aP r sc (if x.kind=7\/x.kind=8 then jl r sc x.text st else st) x.args:=by cases x;rw[Ex.rs];rfl
def Ex.Dv(r:Rp)(sc:ag)(x:Ex):x.rw r sc=if x.kind=6 then (match jZ r sc x.text with
  |some y=>y
  |none=>.mk 6 0 0 0 0 (cN r sc x.text) [])
 else .mk x.kind x.op x.n x.man x.exp (if x.kind=7\/x.kind=8 then j0 r sc x.text else x.text) (Ex.bk r sc x.args):=by cases x;rw[Ex.rw];rfl
def ut(t:Bz):V:=.agg [.int .i64 6,.int .i64 0,.int .i64 0,.int .i64 0,.int .i64 0,.str t,.sl true []]
def qgU(t:Bz):bj eI [(0,1,.int .i64 6),(5,1,.str t)]=some (ut t):=by
 unfold ut;simp[bj,aE]
def qgV(t:Bz):(ut t).weak=(Ex.mk 6 0 0 0 0 t []).v:=by
 simp only[ut,V.weak,V.cr,Ex.dJ];rfl
def HG(r:Rp)(ho:pL r)(bf bt:Bool)(w:Nat)(fv:V):∀(m:Nat) (x:Ex),(Pa.ex x).size<=m->m<=4000->Is r bf bt w fv x
 |0,x,hx,_=>by have:=(Pa.ex x).size_pos;omega
 |m+1,x,hx,hm=>by
  intro bound st F D S b sc hk hd hf hfr;have hsz:(Pa.ex x).size=1+aY (x.args.map Pa.ex):=by rw[Pa.size_eq];rfl
  have hl:x.args.length<=4000:=by have:=jm (x.args.map Pa.ex);rw[bu]at this;omega
  have IH:∀y,y∈x.args→Is r bf bt w fv y:=fun y hy=>HG r ho bf bt w fv m y (by
   obtain⟨i,hi⟩:=jA (jO (f:=Pa.ex) hy);have:=jH hi;omega) oM
  refine au.ib Qz ?_;obtain⟨S1,hS1⟩:∃S1:St,S1=S++[.arr [x.v] 7 1,.arr [eI] 7 1]:=⟨_,rfl⟩;have b0:S1[S.length]?=some (.arr [x.v] 7 1):=by rw[hS1,bK oM];simp
  have b1:S1[S.length+1]?=some (.arr [eI] 7 1):=by rw[hS1,bK oM];simp
  have l1:S1.length=S.length+2:=by rw[hS1];simp
  have fm:=fun bo s=>Rk.jV r bf bt w fv bo s
  have k1:Rk r bf bt w fv bound st F D S1:=by rw[hS1];exact(fm _ _).push hk _
  have s1:Stp w F D S F D S1:=by rw[hS1];exact(Stp.refl _ _ _ _).push _
  have o0:er w F D S.length:=(fm _ _).out hk bL;have o1:er w F D (S.length+1):=(fm _ _).out hk oM;have h0:ae S1 (.ptr S.length 0 0 1) none=some (.int .i64 x.kind):=by simp[ae,b0]
  have h5:ae S1 (.ptr S.length 0 5 1) none=some (.str x.text):=by simp[ae,b0]
  rw[Ex.Du,Ex.Dv];have fin:∀(st':bp) (F' D':Np) (U:St) (z:Ex) (o:V) (e:af),Rk r bf bt w fv bound st' F' D' U->Stp w F D S F' D' U->U[S.length+1]?=some (.arr [eI] 7 1)->er w F' D' (S.length+1)->o.weak=z.v->V.part o 0 (some 7)=some o->e.get 6=some (.ptr (S.length+1) 0 0 1)->
    eH [.cell 6 (some 7)] S.length (fun v U=>i7 w (Rk r bf bt w fv bound st') F D S z.v v U) .ret e (U.set (S.length+1) (.arr [o] 7 1)):=fun st' F' D' U z o e hk' hs' hb ho' hw hp g6=>by
   have hset:(U.set (S.length+1) (.arr [o] 7 1))[S.length+1]?=some (.arr [o] 7 1):=bJ (aM hb);refine⟨[o],by simp[dm,g6,ae,hset,hp],_,_,cK.weak,?_,F',D',(fm _ _).set hk' _ ho',hs'.set _ oM⟩;simp only[aK,hw]
  simp[Qz,aC];rw[<-hS1];by_cases h6:x.kind=6
  .rw[ai h6,ai h6];simp[h0,h5,h6];refine aU (Zp r ho bf bt w fv bound st F D S1 k1 b sc hd hf x.text oM) ?_;rintro v U ⟨rfl,F1,D1,k2,s2⟩;have c1:=s2.at o1 b1;have p1:=o1.next (aM b1) s2;have s2':=s1.trans s2;unfold sY
   cases hmt:jZ r sc x.text with
   |some y=>
    obtain⟨U2,cA⟩:∃U2,U2=U++[.arr [y.v] 7 1]:=⟨_,rfl⟩;have k3:=(fm _ _).push k2 [.arr [y.v] 7 1];have s3:=s2'.push [.arr [y.v] 7 1];have d1:U2[S.length+1]?=some (.arr [eI] 7 1):=by rw[cA];exact gp c1
    have c2:U2[U.length]?=some (.arr [y.v] 7 1):=by rw[cA];simp
    rw[<-cA]at k3 s3;have hst:aA U2 (.ptr (S.length+1) 0 0 1) 7 y.v=some (U2.set (S.length+1) (.arr [y.v] 7 1)):=by simp[aA,d1,yM y.v (Ex.eP y) sM]
    have hld:ae U2 (.ptr U.length 0 0 1) (some 7)=some y.v:=by simp[ae,c2]
    simp[aC,aZ,aA,aE];rw[<-cA];simp[hld,hst];exact fin _ F1 D1 U2 y y.v _ k3 s3 d1 p1 (Ex.iZ y) (G3 y) rfl
   |none=>
    obtain⟨U2,cA⟩:∃U2,U2=U++[.arr [Ex.z.v] 7 1]:=⟨_,rfl⟩;have k3:=(fm _ _).push k2 [.arr [Ex.z.v] 7 1];have s3:=s2'.push [.arr [Ex.z.v] 7 1];have d1:U2[S.length+1]?=some (.arr [eI] 7 1):=by rw[cA];exact gp c1
    rw[<-cA]at k3 s3;have hbu:=qgU (cN r sc x.text);have hst:aA U2 (.ptr (S.length+1) 0 0 1) 7 (ut (cN r sc x.text))=some (U2.set (S.length+1) (.arr [ut (cN r sc x.text)] 7 1)):=by simp[aA,d1,yM (ut (cN r sc x.text)) rfl rfl]
    simp[aC,aZ,aA,aE];rw[<-cA];simp[bz,hbu];simp[hst];exact fin _ F1 D1 U2 _ (ut (cN r sc x.text)) _ k3 s3 d1 p1 (qgV _) rfl rfl
  .rw[aj h6,aj h6];obtain⟨S2,hS2⟩:∃S2:St,S2=S1++[.arr [x.v] 7 1]:=⟨_,rfl⟩;have k2:Rk r bf bt w fv bound st F D S2:=by rw[hS2];exact(fm _ _).push k1 _
   have s2:Stp w F D S F D S2:=by rw[hS2];exact s1.push _
   have d0:S2[S.length]?=some (.arr [x.v] 7 1):=by rw[hS2];exact gp b0
   have d1:S2[S.length+1]?=some (.arr [eI] 7 1):=by rw[hS2];exact gp b1
   have d2:S2[S.length+2]?=some (.arr [x.v] 7 1):=by rw[hS2,bK oM];simp[l1]
   have o2:er w F D (S.length+2):=(fm _ _).out hk oM;have hld:ae S1 (.ptr S.length 0 0 1) (some 7)=some x.v:=by simp[ae,b0]
   have rest:∀(st':bp) (F' D':Np) (U:St) (y:Ex),y.kind=x.kind->y.op=x.op->y.n=x.n->y.man=x.man->y.exp=x.exp->st'.free.length<=st.free.length+1->Rk r bf bt w fv bound st' F' D' U->Stp w F D S F' D' U->U[S.length+1]?=some (.arr [eI] 7 1)->U[S.length+2]?=some (.arr [y.v] 7 1)->
     er w F' D' (S.length+1)→er w F' D' (S.length+2)→∀(Φ:V→St→Prop),(∀(U2 U3 U4:St) (z:Ex),aA U2 (.ptr (S.length+2) 0 6 1) 1 (.sl false ((Ex.bk r sc x.args).map Ex.v))=some U3→ae U3 (.ptr (S.length+2) 0 0 1) (some 7)=some z.v→aA U3 (.ptr (S.length+1) 0 0 1) 7 z.v=some U4→
      (∀e:af,e.get 6=some (.ptr (S.length+1) 0 0 1)->eH [.cell 6 (some 7)] S.length (fun v U=>i7 w (Rk r bf bt w fv bound (Ex.aP r sc st' x.args)) F D S (Ex.mk x.kind x.op x.n x.man x.exp y.text (Ex.bk r sc x.args)).v v U) .ret e U4)->Φ (.sl false ((Ex.bk r sc x.args).map Ex.v)) U2)->
     Ab prog 145 [.ptr w 0 0 1,.sl false (x.args.map Ex.v),.sl b ((ag.flat sc).map cz)] U Φ:=by
    intro st' F' D' U y y1 y2 y3 y4 y5 qnk kU sU e1 e2 G4 Dh Φ hΦ;refine aU (Zr r bf bt w fv x.args IH hl bound st' F' D' U false b sc kU hd hf oM) ?_;rintro v U2 ⟨rfl,F2,D2,k3,s3⟩;have f1:=s3.at G4 e1;have f2:=s3.at Dh e2;have qhQ:=G4.next (aM e1) s3;have qhR:=Dh.next (aM e2) s3;obtain⟨z,hz⟩:∃z:Ex,z=.mk x.kind x.op x.n x.man x.exp y.text (Ex.bk r sc x.args):=⟨_,rfl⟩
    have hst:aA U2 (.ptr (S.length+2) 0 6 1) 1 (.sl false ((Ex.bk r sc x.args).map Ex.v))=some (U2.set (S.length+2) (.arr [z.v] 7 1)):=by
     simp[aA,f2,qt,aE,y1,y2,y3,y4,y5,hz];rw[Ex.dJ];rfl
    have Kq:ae (U2.set (S.length+2) (.arr [z.v] 7 1)) (.ptr (S.length+2) 0 0 1) (some 7)=some z.v:=by
     have:(U2.set (S.length+2) (.arr [z.v] 7 1))[S.length+2]?=some (.arr [z.v] 7 1):=bJ (aM f2);simp[ae,this]
    have e1':(U2.set (S.length+2) (.arr [z.v] 7 1))[S.length+1]?=some (.arr [eI] 7 1):=by rw[bC oM];exact f1
    have hst2:aA (U2.set (S.length+2) (.arr [z.v] 7 1)) (.ptr (S.length+1) 0 0 1) 7 z.v=some ((U2.set (S.length+2) (.arr [z.v] 7 1)).set (S.length+1) (.arr [z.v] 7 1)):=by simp[aA,e1',yM z.v (Ex.eP z) sM]
    refine hΦ _ _ _ z hst Kq hst2 fun e g6=>?_
    rw[<-hz];exact fin _ F2 D2 _ z z.v _ ((fm _ _).set k3 _ qhR) ((sU.trans s3).set _ oM) e1' qhQ (Ex.iZ z) (G3 z) g6
   simp[h0,h6,hld,aC,aZ,aA,aE];rw[<-hS2];have h0':ae S2 (.ptr S.length 0 0 1) none=some (.int .i64 x.kind):=by simp[ae,d0]
   have h5':ae S2 (.ptr S.length 0 5 1) none=some (.str x.text):=by simp[ae,d0]
   have h6':ae S2 (.ptr S.length 0 6 1) none=some (.sl false (x.args.map Ex.v)):=by simp[ae,d0]
   by_cases gP:x.kind=7\/x.kind=8
   .rw[ai gP,ai gP];have q:=Zq r ho bf bt w fv bound st F D S2 k2 b sc hd hf x.text oM
    have hc:decide (x.kind=7)=true\/(decide (x.kind=7)=false/\decide (x.kind=8)=true):=by
     by_cases h7:x.kind=7
     .exact .inl (by simp[h7])
     .exact .inr ⟨by simp[h7],by simp[gP.resolve_left h7]⟩
    rcases hc with hc|⟨hc,hc2⟩
    all_goals
     simp only[cR,decide_eq_false_iff_not]at hc
     try simp only[cR]at hc2
     first
      |simp[h0',h5',hc,hc2,l1]
      |simp[h0',h5',hc,l1]
     refine aU q ?_
     rintro v U ⟨rfl,F1,D1,k3,s3⟩
     have e0:=s3.at o0 d0
     have e1:=s3.at o1 d1
     have e2:=s3.at o2 d2
     have po0:=o0.next (aM d0) s3
     have G4:=o1.next (aM d1) s3
     have Dh:=o2.next (aM d2) s3
     obtain⟨y,hy⟩:∃y:Ex,y=.mk x.kind x.op x.n x.man x.exp (j0 r sc x.text) x.args:=⟨_,rfl⟩
     have hst:aA U (.ptr (S.length+2) 0 5 1) 1 (.str (j0 r sc x.text))=some (U.set (S.length+2) (.arr [y.v] 7 1)):=by
      simp[aA,e2,qt,aE,hy];rw[Ex.dJ];rfl
     have e0':(U.set (S.length+2) (.arr [y.v] 7 1))[S.length]?=some (.arr [x.v] 7 1):=by rw[bC oM];exact e0
     have e1':(U.set (S.length+2) (.arr [y.v] 7 1))[S.length+1]?=some (.arr [eI] 7 1):=by rw[bC oM];exact e1
     have e2':(U.set (S.length+2) (.arr [y.v] 7 1))[S.length+2]?=some (.arr [y.v] 7 1):=bJ (aM e2)
     have k4:=(fm _ _).set k3 (.arr [y.v] 7 1) Dh
     have s4:=(s2.trans s3).set (l:=S.length+2) (.arr [y.v] 7 1) oM
     have ha:ae (U.set (S.length+2) (.arr [y.v] 7 1)) (.ptr S.length 0 6 1) none=some (.sl false (x.args.map Ex.v)):=by simp[ae,e0']
     simp[hst,ha]
     have hr:=Hk r sc x.text st
     refine rest _ F1 D1 _ y (by rw[hy];rfl) (by rw[hy];rfl) (by rw[hy];rfl) (by rw[hy];rfl) (by rw[hy];rfl) hr k4 s4 e1' e2' G4 Dh _ ?_
     intro U2 U3 U4 z a1 a2 a3 a4
     have hyt:y.text=j0 r sc x.text:=by rw[hy];rfl
     rw[hyt]at a4
     simp[a1,a2,a3]
     first
      |exact a4 _ rfl
      |(simp only[hc2]at a4;exact a4 _ rfl)
      |(simp only[hc]at a4;exact a4 _ rfl)
   .rw[aj gP,aj gP];have h7:x.kind≠7:=fun hh=>gP (.inl hh)
    have h8:x.kind≠8:=fun hh=>gP (.inr hh)
    simp[h0',h7,h8,h6'];refine rest st F D S2 x rfl rfl rfl rfl rfl oM k2 s2 d1 d2 o1 o2 _ ?_;intro U2 U3 U4 z a1 a2 a3 a4;simp[l1,a1,a2,a3];exact a4 _ rfl
def qmf(l:List Ex)(i:Nat)(h:i<l.length):j8 (l.take (i+1))=(j8 (l.take i)||(decide (l[i].kind≠6)&&decide (l[i].kind≠7))):=by
 unfold j8;rw[cY,bI h,gZ,yg];simp
def DK(r:Rp)(ho:pL r)(bf bt:Bool)(w:Nat)(fv:V)(l:List Ex)(hl:aY (l.map Pa.ex)<=4000)(bound:List Bz)(st:bp)(F D:Np)(S:St)(bl b:Bool)(sc:ag)(hk:Rk r bf bt w fv bound st F D S)(hd:nw sc)(hf:(ag.flat sc).length<=1000000)(hs:st.free.length+aY (l.map Pa.ex)<=1000000):
  au prog 145 [.ptr w 0 0 1,.sl bl (l.map Ex.v),.sl b ((ag.flat sc).map cz)] S (fun v U=>i7 w (Rk r bf bt w fv bound (Ex.aP r sc st l)) F D S (.sl false ((Ex.bk r sc l).map Ex.v)) v U):=
 Zr r bf bt w fv l (fun x hx=>HG r ho bf bt w fv 4000 x (by
  obtain⟨i,hi⟩:=jA (jO (f:=Pa.ex) hx);have:=jH hi;omega) bL) (by have:=jm (l.map Pa.ex);rw[bu]at this;omega) bound st F D S bl b sc hk hd hf hs
def qlb(r:Rp)(ho:pL r)(bf bt:Bool)(w:Nat)(fv:V)(l:List Ex)(hl:aY (l.map Pa.ex)<=4000)(bound:List Bz)(st:bp)(F D:Np)(S:St)(bl b:Bool)(sc:ag)(hk:Rk r bf bt w fv bound st F D S)(hd:nw sc)(hf:(ag.flat sc).length<=1000000)(hs:st.free.length+aY (l.map Pa.ex)<=1000000):
  au prog 231 [.ptr w 0 0 1,.sl bl (l.map Ex.v),.sl b ((ag.flat sc).map cz)] S (fun v U=>i7 w (Rk r bf bt w fv bound (qq r sc st l)) F D S (.sl false ((Ex.bk r sc l).map Ex.v)) v U):=by
 refine au.ib PS ?_;have hll:l.length<=4000:=by have:=jm (l.map Pa.ex);rw[bu]at this;omega
 simp[PS];refine aU (DK r ho bf bt w fv l hl bound st F D S bl b sc hk hd hf hs) ?_;rintro v U ⟨rfl,F1,D1,k1,s1⟩;have hT:qq r sc st l={ Ex.aP r sc st l with bad:=(Ex.aP r sc st l).bad||j8 (Ex.bk r sc l) }:=rfl;rw[hT];obtain⟨st1,hst1⟩:∃st1,st1=Ex.aP r sc st l:=⟨_,rfl⟩;obtain⟨o,ho'⟩:∃o,o=Ex.bk r sc l:=⟨_,rfl⟩;have hol:o.length=l.length:=by rw[ho',Ex.Dx,bu]
 rw[<-hst1]at k1 |-;rw[<-ho'];simp;refine du (fun e U=>Rk r bf bt w fv bound { st1 with bad:=st1.bad||j8 o } F1 D1 U/\Stp w F D S F1 D1 U/\e.get 7=some (.sl false (o.map Ex.v))) ?_ ?_
 ·refine bN (fun j e U=>∃i:Nat,j=o.length - i∧i≤o.length∧Rk r bf bt w fv bound { st1 with bad:=st1.bad || j8 (o.take i) } F1 D1 U∧Stp w F D S F1 D1 U∧
   e=[(8,.int .i64 i),(7,.sl false (o.map Ex.v)),(0,.ptr w 0 0 1)]) o.length _ ?_ ⟨0,by simp,by omega,by simpa[j8]using k1,s1,rfl⟩ ?_
  .exact aN
  rintro j e U ⟨i,rfl,hi,hk1,hs1,rfl⟩;by_cases hlt:i<o.length
  .have hia:=mP hlt false U;obtain⟨_,_,q0,q1,q2,q3,q4,q5,q6⟩:=uJ hk1;obtain⟨U2,p1,p2,p3⟩:=hk1.L6 (st1.bad||j8 (o.take (i+1)));have ht:=qmf o i hlt;simp only at q5
   cases hb:st1.bad||j8 (o.take i) with
   |true=>
    have hb1:(st1.bad||j8 (o.take (i+1)))=true:=by rw[ht,<-jg,hb,Bool.true_or]
    rw[hb]at q5;rw[hb1]at p1;simp[hlt,cF,q5,p1,bP i];refine⟨_,?_,_,?_,i+1,rfl,by omega,p2,hs1.trans p3,rfl⟩
    .omega
    .exact aN
   |false=>
    have hb1:(st1.bad||j8 (o.take (i+1)))=(decide (o[i].kind≠6)&&decide (o[i].kind≠7)):=by rw[ht,<-jg,hb,Ak]
    rw[hb]at q5;rw[hb1]at p1;by_cases h6:o[i].kind=6
    .simp[h6]at p1;simp[hlt,cF,q5,hia,h6,p1,bP i];refine⟨_,?_,_,?_,i+1,rfl,by omega,p2,hs1.trans p3,rfl⟩
     .omega
     .exact aN
    .simp[h6]at p1;simp[hlt,cF,q5,hia,h6,p1,bP i];refine⟨_,?_,_,?_,i+1,rfl,by omega,p2,hs1.trans p3,rfl⟩
     .omega
     .exact aN
  .have:i=o.length:=by omega
   subst this;rw[eR]at hk1;simp;exact⟨hk1,hs1⟩
 rintro e U ⟨hk1,hs1,g7⟩;simp[g7];exact aS rfl ⟨by rw[ho'];rfl,F1,D1,hk1,hs1⟩
def El.iq(r:Rp)(sc:ag):∀(l:List El) (st:bp),(El.aP r sc st l).free.length<=st.free.length+aY (l.map Pa.el)
 |[],st=>by simp[El.aP]
 |x::l,st=>by
  have h1:=Ex.iq r sc x.ak st;have h2:=El.iq r sc l (Ex.aP r sc st x.ak);have h3:(Pa.el x).size=1+aY (x.ak.map Pa.ex):=by rw[Pa.size_eq];rfl
  have h4:El.aP r sc st (x::l)=El.aP r sc (Ex.aP r sc st x.ak) l:=rfl;rw[h4,b9,fq];omega
def Z5(r:Rp)(sc:ag)(st:bp)(l:List Ex):(qq r sc st l).free.length<=st.free.length+aY (l.map Pa.ex):=Ex.iq r sc l st
mutual
theorem Sm.uM(r:Rp):∀(s:Sm) (sc:ag) (n:Nat) (st:bp),(s.rs r sc n st).free.length<=st.free.length+(Pa.st s).size
 |.mk l k t g e h d b,sc,n,st=>by
  have hsz:=Sm.mZ (.mk l k t g e h d b);simp only[Sm.labels,Sm.targets,Sm.ak,Sm.elems,Sm.decls,Sm.body]at hsz;rw[Sm.rs];split
  .have h1:=De.iq r d (ah (bM d b) n::sc) sc (n+(ah (bM d b) n).length) st;have h2:=Sm.iq r b (ah (bM d b) n::sc) (n+(ah (bM d b) n).length+De.aJ d) (De.aP r (ah (bM d b) n::sc) sc (n+(ah (bM d b) n).length) st d);omega
  .split
   .have h2:=Sm.iq r b (ah (bq b) n::sc) (n+(ah (bq b) n).length) st;omega
   .have h0:(if k=6 then jl r sc t st else st).free.length<=st.free.length+1:=by
     split
     .exact Hk r sc t st
     .omega
    have h1:=Z5 r sc (if k=6 then jl r sc t st else st) g;have h2:=El.iq r sc h (qq r sc (if k=6 then jl r sc t st else st) g);have h3:=Ex.iq r sc e (El.aP r sc (qq r sc (if k=6 then jl r sc t st else st) g) h);have h4:=Sm.Hj r b sc n (Ex.aP r sc (El.aP r sc (qq r sc (if k=6 then jl r sc t st else st) g) h) e);omega
theorem De.uM(r:Rp):∀(s:De) (own sc:ag) (n:Nat) (st:bp),(s.rs r own sc n st).free.length<=st.free.length+(Pa.de s).size
 |.mk k o t nm e fo b,own,sc,n,st=>by
  have hsz:=De.mZ (.mk k o t nm e fo b);simp only[De.names,De.aB,De.ak,De.body]at hsz;rw[De.rs];split
  .have h1:=Ex.iq r own e st;have h2:=Sm.Hj r b (ah (fo.map Fo.name) n::own) (n+(ah (fo.map Fo.name) n).length) (Ex.aP r own st e);omega
  .have h1:=Ex.iq r (if k=2 then sc else own) e st;omega
theorem De.iq(r:Rp):∀(l:List De) (own sc:ag) (n:Nat) (st:bp),(De.aP r own sc n st l).free.length<=st.free.length+aY (l.map Pa.de)
 |[],own,sc,n,st=>by simp[De.aP]
 |x::l,own,sc,n,st=>by
  have h1:=De.uM r x own sc n st;have h2:=De.iq r l own sc (n+De.nb x) (x.rs r own sc n st);simp only[De.aP,b9,fq];omega
theorem Sm.iq(r:Rp):∀(l:List Sm) (sc:ag) (n:Nat) (st:bp),(Sm.aP r sc n st l).free.length<=st.free.length+aY (l.map Pa.st)
 |[],sc,n,st=>by simp[Sm.aP]
 |x::l,sc,n,st=>by
  have h1:=Sm.uM r x sc n st;have h2:=Sm.iq r l sc (n+Sm.nb x) (x.rs r sc n st);simp only[Sm.aP,b9,fq];omega
theorem Sm.Hj(r:Rp):∀(l:List Sm) (sc:ag) (n:Nat) (st:bp),(Sm.ip r sc n st l).free.length<=st.free.length+aY (l.map Pa.st)
 |[],sc,n,st=>by simp[Sm.ip]
 |x::l,sc,n,st=>by
  have h1:=Sm.uM r x (ah x.labels n::sc) (n+(ah x.labels n).length) st;have h2:=Sm.Hj r l sc (n+(ah x.labels n).length+Sm.nb x) (x.rs r (ah x.labels n::sc) (n+(ah x.labels n).length) st);simp only[Sm.ip,b9,fq];omega
end
def CW(l:List Bz)(n:Nat):(bY l).length=(ah l n).length:=by rw[iW];exact iR l 0 n
def qd3(s:bw)(sc:ag):(ag.flat (s::sc)).length=(ag.flat sc).length+s.length:=by simp[ag.flat]
def Rk.real{r:Rp}{bf bt:Bool}{w:Nat}{fv:V}{bound:List Bz}{st:bp}{F D:Np}{S:St}(h:Rk r bf bt w fv bound st F D S)(bound':List Bz)(st':bp):∃F' D' U,Rk r bf bt w fv bound' st' F' D' U/\Stp w F D S F' D' U:=by
 have Ul:=h.lw;obtain⟨U,hU⟩:∃U:St,U=(S++[Ob.arr (bound'.map V.str) 1 0,Ob.arr (st'.free.map V.str) 1 0]).set w (dK r bf bt fv (.arr S.length 0 bound'.length bound'.length) (.arr (S.length+1) 0 st'.free.length st'.free.length) st'):=⟨_,rfl⟩;have u0:U[S.length]?=some (.arr (bound'.map .str) 1 0):=by rw[hU,bC oM,bK oM];simp
 have u1:U[S.length+1]?=some (.arr (st'.free.map .str) 1 0):=by rw[hU,bC oM,bK oM];simp
 have uw:U[w]?=some (dK r bf bt fv (.arr S.length 0 bound'.length bound'.length) (.arr (S.length+1) 0 st'.free.length st'.free.length) st'):=by rw[hU,bJ (by simp;omega)]
 have uo:∀l o,l≠w->S[l]?=some o->U[l]?=some o:=fun l o hl ho=>by rw[hU,bC (Ne.symm hl)];exact yV ho
 have lU:U.length=S.length+2:=by rw[hU];simp
 refine⟨fun l=>F l\/l=S.length\/l=S.length+1,D,U,⟨⟨_,_,uw,.inr ⟨S.length,0,.inr (.inl rfl),by omega,rfl,u0,by omega⟩,.inr ⟨S.length+1,0,.inr (.inr rfl),by omega,rfl,u1,by omega⟩,?_⟩,h.fr.keep fun l o hl ho=>uo l o (fun hh=>h.nD (hh ▸ hl)) ho,?_,?_,h.nD,?_,by omega⟩,⟨?_,?_⟩,?_,grow.refl _ _⟩
 .intro l a b c hb a' b' c' hf;simp only[V.arr.injEq]at hb hf;omega
 .rintro l ((hl|rfl|rfl)|hl)
  .have:=h.lt l (.inl hl);omega
  .omega
  .omega
  .have:=h.lt l (.inr hl);omega
 .rintro(hf|hf|hf)
  .exact h.nF hf
  .omega
  .omega
 .rintro l (hl|rfl|rfl) hd
  .exact h.di l hl hd
  .have:=h.lt _ (.inr hd);omega
  .have:=h.lt _ (.inr hd);omega
 .omega
 .intro l hl hn;rw[hU,bC (fun hh=>hn (.inl hh.symm)),b8 hl]
 .rintro l (hl|hl|hl)
  .exact .inl hl
  .exact .inr oM
  .exact .inr oM
structure oG(bound:List Bz)(st:bp)(sc:ag)(nb size:Nat):Prop where
 nd:nw sc
 fl:(ag.flat sc).length<=bound.length
 bo:bound.length+nb<=50000
 fr:st.free.length+size<=1000000
def vU(r:Rp)(bf bt:Bool)(w:Nat)(fv:V)(s:Sm):Prop:=∀(bound:List Bz) (st:bp) (F D:Np) (S:St) (b:Bool) (sc:ag),Rk r bf bt w fv bound st F D S->oG bound st sc s.nb (Pa.st s).size->
 au prog 194 [.ptr w 0 0 1,s.v,.sl b ((ag.flat sc).map cz)] S (fun v U=>i7 w (Rk r bf bt w fv (bound++s.bn) (s.rs r sc bound.length st)) F D S (s.rw r sc bound.length).v v U)
def qg5(l:List Sm)(i:Nat)(h:i<l.length):Sm.aJ (l.take (i+1))=Sm.aJ (l.take i)+l[i].nb/\Sm.aJ (l.take (i+1))<=Sm.aJ l:=by
 have ht:l.take (i+1)=l.take i++[l[i]]:=by rw[cY,bI h];rfl
 refine⟨by rw[ht,Sm.qf];simp[Sm.aJ],?_⟩;have:Sm.aJ l=Sm.aJ (l.take (i+1))+Sm.aJ (l.drop (i+1)):=by rw[<-Sm.qf,lA]
 omega
def qg1(l:List Sm)(i:Nat)(h:i<l.length):Sm.aX (l.take (i+1))=Sm.aX (l.take i)+((ah l[i].labels 0).length+l[i].nb)/\Sm.aX (l.take (i+1))<=Sm.aX l:=by
 have ht:l.take (i+1)=l.take i++[l[i]]:=by rw[cY,bI h];rfl
 refine⟨by rw[ht,Sm.CS];simp[Sm.aX],?_⟩;have:Sm.aX l=Sm.aX (l.take (i+1))+Sm.aX (l.drop (i+1)):=by rw[<-Sm.CS,lA]
 omega
def Zt(r:Rp)(bf bt:Bool)(w:Nat)(fv:V)(l:List Sm)(H:∀s,s∈l->vU r bf bt w fv s)(hl:l.length<=4000)(bound:List Bz)(st:bp)(F D:Np)(S:St)(bl b:Bool)(sc:ag)(hk:Rk r bf bt w fv bound st F D S)(ok:oG bound st sc (Sm.aJ l) (aY (l.map Pa.st))):
  au prog 161 [.ptr w 0 0 1,.sl bl (l.map Sm.v),.sl b ((ag.flat sc).map cz)] S (fun v U=>i7 w (Rk r bf bt w fv (bound++Sm.bS l) (Sm.aP r sc bound.length st l)) F D S (.sl false ((Sm.bk r sc bound.length l).map Sm.v)) v U):=by
 refine au.ib OP ?_;simp[OP];refine du (ER w 8 F D S (Rk r bf bt w fv (bound++Sm.bS l) (Sm.aP r sc bound.length st l)) 7 ((Sm.bk r sc bound.length l).map Sm.v)) ?_ ?_
 ·refine bN (EK w 8 F D S l.length (fun i=>Rk r bf bt w fv (bound++Sm.bS (l.take i)) (Sm.aP r sc bound.length st (l.take i))) (fun i=>(Sm.bk r sc bound.length (l.take i)).map Sm.v)
   (fun i gv=>[(8,.int .i64 i),(7,gv),(0,.ptr w 0 0 1),(1,.sl bl (l.map Sm.v)),(2,.sl b ((ag.flat sc).map cz))])) l.length _ ?_ ⟨0,_,F,D,by simp,by omega,Gw.nil _ _ _ _ _ _,by simpa[Sm.bS,Sm.aP]using hk,Stp.refl _ _ _ _,rfl⟩ ?_
  .exact aN
  rintro j e U ⟨i,gv,F1,D1,rfl,hi,hg,hk1,hs1,rfl⟩;dsimp only at hg hk1;by_cases hlt:i<l.length
  .have hst:=zQ Pa.st l i hlt;have hrl:=Sm.iq r (l.take i) sc bound.length st;obtain⟨n1,n2⟩:=qg5 l i hlt;have hbl:(bound++Sm.bS (l.take i)).length=bound.length+Sm.aJ (l.take i):=by rw[cJ,Sm.ny]
   have ht:l.take (i+1)=l.take i++[l[i]]:=by rw[cY,bI hlt];rfl
   have q:=H l[i] (cI hlt) _ _ F1 D1 U b sc hk1 ⟨ok.nd,by have:=ok.fl;omega,by have:=ok.bo;omega,by have:=ok.fr;omega⟩;rw[hbl]at q;simp[hlt,pY];refine aU q ?_;rintro v U2 ⟨rfl,F2,D2,hk2,hs2⟩;have hg2:=hg.step hs2;have hs3:=hs1.trans hs2;obtain⟨v',U3,ha,hg3,hk3,hs4,_⟩:=hg2.pQ (Rk.jV r bf bt w fv _ _) (bytes:=168) (b:=true) hk2 hs3 (Sm.gn (l[i].rw r sc (bound.length+Sm.aJ (l.take i)))) (by rw[bu,YK,km];omega)
   have hn1:(Sm.bk r sc bound.length (l.take i)).map Sm.v++[(l[i].rw r sc (bound.length+Sm.aJ (l.take i))).v]=(Sm.bk r sc bound.length (l.take (i+1))).map Sm.v:=by
    rw[ht,Sm.Dw,cy];rfl
   have hn2:Sm.rs r sc (bound.length+Sm.aJ (l.take i)) (Sm.aP r sc bound.length st (l.take i)) l[i]=Sm.aP r sc bound.length st (l.take (i+1)):=by
    rw[ht,Sm.ri];rfl
   have hn3:bound++Sm.bS (l.take i)++l[i].bn=bound++Sm.bS (l.take (i+1)):=by
    rw[ht,Sm.Ba,cO];simp[Sm.bS]
   rw[hn1]at hg3;rw[hn2,hn3]at hk3;simp[Sm.gn,ha,bP i];refine⟨_,?_,_,?_,i+1,v',F2,D2,rfl,by omega,hg3,hk3,hs4,rfl⟩
   .omega
   .exact aN
  .have:i=l.length:=by omega
   subst this;simp only[eR]at hg hk1;simp;exact⟨gv,F1,D1,rfl,hg,hk1,hs1⟩
 rintro e U ⟨gv,F1,D1,g9,hg,hk1,hs1⟩;simp[g9];exact Bn (Rk.jV _ _ _ _ _ _ _) rfl hg hk1 hs1 (by rw[<-iM,i4])
def oG.enter{bound:List Bz}{st:bp}{sc:ag}{nb size m:Nat}(ok:oG bound st sc nb size)(l:List Bz)(h:(ah l 0).length+m<=nb):oG (bound++bY l) st (ah l bound.length::sc) m size:=by
 have h1:=CW l 0;have h2:=CW l bound.length;refine⟨ok.nd.bind l _,?_,?_,ok.fr⟩
 .rw[qd3,cJ];have:=ok.fl;omega
 .rw[cJ];have:=ok.bo;omega
def K6:∀l:List Sm,(bq l).length<=aY (l.map Pa.st)
 |[]=>by simp[bq]
 |x::m=>by
  have ih:=K6 m;have:=Sm.mZ x;simp only[bq,iO,cJ,b9,fq]at ih |-;omega
def MX(r:Rp)(bf bt:Bool)(w:Nat)(fv:V)(l:List Sm)(H:∀s,s∈l->vU r bf bt w fv s)(hl:aY (l.map Pa.st)<=4000)(bound:List Bz)(st:bp)(F D:Np)(S:St)(bl b:Bool)(sc:ag)(hk:Rk r bf bt w fv bound st F D S)(ok:oG bound st sc ((ah (bq l) 0).length+Sm.aJ l) (aY (l.map Pa.st))):
  au prog 117 [.ptr w 0 0 1,.sl bl (l.map Sm.v),.sl b ((ag.flat sc).map cz)] S (fun v U=>i7 w (Rk r bf bt w fv (bound++(bY (bq l)++Sm.bS l)) (Sm.aP r (ah (bq l) bound.length::sc) (bound.length+(ah (bq l) bound.length).length) st l)) F D S (.sl false ((Sm.bk r (ah (bq l) bound.length::sc) (bound.length+(ah (bq l) bound.length).length) l).map Sm.v)) v U):=by
 refine au.ib Oq ?_;have hlen:l.length<=4000:=by have:=jm (l.map Pa.st);rw[bu]at this;omega
 have hlab:=K6 l;have hbl:(bound++bY (bq l)).length=bound.length+(ah (bq l) bound.length).length:=by rw[cJ,CW _ bound.length]
 simp[Oq];refine aU (Zu l hl bl w _ (Rk.jV r bf bt w fv bound st) F D S hk) ?_;rintro v U ⟨rfl,F1,D1,k1,s1⟩;simp;have qnj:=ok.fl;have iK:=ok.bo;refine aU (M3 r bf bt w fv bound st F1 D1 U k1 b sc (bq l) _ (.inl ⟨false,rfl⟩) oM oM) ?_;rintro v U2 ⟨rfl,F2,D2,k2,s2⟩;simp;have q:=Zt r bf bt w fv l H hlen _ st F2 D2 U2 bl false (ah (bq l) bound.length::sc) k2 (ok.enter (bq l) bL);rw[hbl,cO]at q;refine aU q ?_;rintro v U3 ⟨rfl,F3,D3,k3,s3⟩;simp;exact aS rfl ⟨rfl,F3,D3,k3,(s1.trans s2).trans s3⟩
def ZE(r:Rp)(bf bt:Bool)(w:Nat)(fv:V)(l:List Sm)(H:∀s,s∈l->vU r bf bt w fv s)(hl:aY (l.map Pa.st)<=4000)(bound:List Bz)(st:bp)(F D:Np)(S:St)(bl b:Bool)(sc:ag)(hk:Rk r bf bt w fv bound st F D S)(ok:oG bound st sc (Sm.aX l) (aY (l.map Pa.st))):
  au prog 232 [.ptr w 0 0 1,.sl bl (l.map Sm.v),.sl b ((ag.flat sc).map cz)] S (fun v U=>i7 w (Rk r bf bt w fv (bound++Sm.eS l) (Sm.ip r sc bound.length st l)) F D S (.sl false ((Sm.fY r sc bound.length l).map Sm.v)) v U):=by
 refine au.ib PT ?_;have hlen:l.length<=4000:=by have:=jm (l.map Pa.st);rw[bu]at this;omega
 simp[PT];refine du (ER w 8 F D S (Rk r bf bt w fv (bound++Sm.eS l) (Sm.ip r sc bound.length st l)) 7 ((Sm.fY r sc bound.length l).map Sm.v)) ?_ ?_
 ·refine bN (EK w 8 F D S l.length (fun i=>Rk r bf bt w fv (bound++Sm.eS (l.take i)) (Sm.ip r sc bound.length st (l.take i))) (fun i=>(Sm.fY r sc bound.length (l.take i)).map Sm.v)
   (fun i gv=>[(8,.int .i64 i),(7,gv),(0,.ptr w 0 0 1),(1,.sl bl (l.map Sm.v)),(2,.sl b ((ag.flat sc).map cz))])) l.length _ ?_ ⟨0,_,F,D,by simp,by omega,Gw.nil _ _ _ _ _ _,by simpa[Sm.eS,Sm.ip]using hk,Stp.refl _ _ _ _,rfl⟩ ?_
  .exact aN
  rintro j e U ⟨i,gv,F1,D1,rfl,hi,hg,hk1,hs1,rfl⟩;dsimp only at hg hk1;by_cases hlt:i<l.length
  .have hst:=zQ Pa.st l i hlt;have hrl:=Sm.Hj r (l.take i) sc bound.length st;obtain⟨n1,n2⟩:=qg1 l i hlt;have hbl:(bound++Sm.eS (l.take i)).length=bound.length+Sm.aX (l.take i):=by rw[cJ,Sm.Fa]
   have ht:l.take (i+1)=l.take i++[l[i]]:=by rw[cY,bI hlt];rfl
   have hlab:bq [l[i]]=l[i].labels:=by simp[bq]
   have q:=MX r bf bt w fv [l[i]] (fun s hs=>by simp at hs;subst hs;exact H _ (cI hlt)) (by simp;omega) _ _ F1 D1 U true b sc hk1 ⟨ok.nd,by have:=ok.fl;omega,by have:=ok.bo;rw[hlab];simp only[Sm.aJ];omega,by have:=ok.fr;simp;omega⟩;rw[hbl,hlab]at q;simp only[b9,jj,Sm.bS,Sm.aP,Sm.bk,kR]at q;simp[hlt,pY,Sm.gn];refine aU q ?_;rintro v U2 ⟨rfl,F2,D2,hk2,hs2⟩;have hg2:=hg.step hs2;have hs3:=hs1.trans hs2;obtain⟨v',U3,ha,hg3,hk3,hs4,_⟩:=hg2.pQ (Rk.jV r bf bt w fv _ _) (bytes:=168) (b:=false) hk2 hs3 (Sm.gn (l[i].rw r (ah l[i].labels (bound.length+Sm.aX (l.take i))::sc) (bound.length+Sm.aX (l.take i)+(ah l[i].labels (bound.length+Sm.aX (l.take i))).length))) (by rw[bu,YI,km];omega)
   have hn1:(Sm.fY r sc bound.length (l.take i)).map Sm.v++[(l[i].rw r (ah l[i].labels (bound.length+Sm.aX (l.take i))::sc) (bound.length+Sm.aX (l.take i)+(ah l[i].labels (bound.length+Sm.aX (l.take i))).length)).v]=(Sm.fY r sc bound.length (l.take (i+1))).map Sm.v:=by
    rw[ht,Sm.YH,cy];rfl
   have hn2:Sm.rs r (ah l[i].labels (bound.length+Sm.aX (l.take i))::sc) (bound.length+Sm.aX (l.take i)+(ah l[i].labels (bound.length+Sm.aX (l.take i))).length) (Sm.ip r sc bound.length st (l.take i)) l[i]=Sm.ip r sc bound.length st (l.take (i+1)):=by
    rw[ht,Sm.Yx];rfl
   have hn3:bound++Sm.eS (l.take i)++(bY l[i].labels++l[i].bn)=bound++Sm.eS (l.take (i+1)):=by
    rw[ht,Sm.RE,cO];simp[Sm.eS]
   rw[hn1]at hg3;rw[hn2,hn3]at hk3;simp[ha,bP i];refine⟨_,?_,_,?_,i+1,v',F2,D2,rfl,by omega,hg3,hk3,hs4,rfl⟩
   .omega
   .exact aN
  .have:i=l.length:=by omega
   subst this;simp only[eR]at hg hk1;simp;exact⟨gv,F1,D1,rfl,hg,hk1,hs1⟩
 rintro e U ⟨gv,F1,D1,g9,hg,hk1,hs1⟩;simp[g9];exact Bn (Rk.jV _ _ _ _ _ _ _) rfl hg hk1 hs1 (by rw[<-iM,i4])
def Gx(sz n0 w:Nat)(F D:Np)(xs:List V)(v:V)(S:St):Prop:=(∃b,v=.sl b xs)\/Gw sz n0 w F D xs v S
def Gw.oS{sz n0 w:Nat}{F D:Np}{xs:List V}{v:V}{S:St}(h:Gw sz n0 w F D xs v S):v.cells=[v]/\v.flat=true/\v.size=1:=by
 rcases h with ⟨rfl,rfl⟩|⟨l,wr,h1,h2,rfl,h4,h5⟩<;>exact⟨rfl,rfl,rfl⟩
def Gx.oS{sz n0 w:Nat}{F D:Np}{xs:List V}{v:V}{S:St}(h:Gx sz n0 w F D xs v S):v.cells=[v]/\v.flat=true/\v.size=1:=by
 rcases h with ⟨b,rfl⟩| h
 .exact⟨rfl,rfl,rfl⟩
 .exact h.oS
def Gw.ne{sz sz' n0 xi w w':Nat}{F D F' D':Np}{xs xs':List V}{v v':V}{S:St}(h:Gw sz n0 w F D xs v S)(h':Gw sz' xi w' F' D' xs' v' S)(hs:sz≠sz'):∀l a b c a' b' c',v=.arr l a b c->v'≠.arr l a' b' c':=by
 rintro l a b c a' b' c' rfl rfl;rcases h with ⟨_,h⟩|⟨l',wr,h1,h2,h3,h4,h5⟩
 .cases h
 .cases h3;rcases h' with ⟨_,h⟩|⟨l',wr',g1,g2,g3,g4,g5⟩
  .cases h
  .cases g3;rw[h4]at g4;cases g4;exact hs rfl
def Gx.ne{sz sz' n0 xi w w':Nat}{F D F' D':Np}{xs xs':List V}{v v':V}{S:St}(h:Gx sz n0 w F D xs v S)(h':Gx sz' xi w' F' D' xs' v' S)(hs:sz≠sz'):∀l a b c a' b' c',v=.arr l a b c->v'≠.arr l a' b' c':=by
 intro l a b c a' b' c' hv hv';rcases h with ⟨_,h⟩| h
 .rw[hv]at h;cases h
 .rcases h' with ⟨_,h'⟩|h'
  .rw[hv']at h';cases h'
  .exact h.ne h' hs l a b c a' b' c' hv hv'
def Nf(rf v:V):Prop:=∀l a b c,rf=.arr l a b c->∀xs wr,v.eB l xs wr=v
def Nf.under{rf v:V}(h:v.under 0=true):Nf rf v:=fun _ _ _ _ _ _ _=>V.FU v h
def Nf.gx{sz sz' n0 xi w w':Nat}{F D F' D':Np}{xs xs':List V}{v v':V}{S:St}(h:Gx sz n0 w F D xs v S)(h':Gx sz' xi w' F' D' xs' v' S)(hs:sz≠sz')(hx:V.dj 0 xs'=true):Nf v v':=by
 intro l a b c hv ys wr;rcases h' with ⟨b',rfl⟩|h'
 .exact V.FU _ (by simpa[V.under]using hx)
 .rcases h' with ⟨_,rfl⟩|⟨l',wr',g1,g2,rfl,g4,g5⟩
  .rfl
  .have:=h.ne (sz':=sz') (xi:=xi) (w':=w') (F':=F') (D':=D') (xs':=xs') (v':=.arr l' 0 xs'.length xs'.length) (.inr (.inr ⟨l',wr',g1,g2,rfl,g4,g5⟩)) hs l a b c 0 xs'.length xs'.length hv;simp only[V.eB];rw[aj];rintro⟨rfl,_⟩;exact this rfl
def Gx.other{sz n0 w:Nat}{F D:Np}{xs:List V}{v:V}{S U:St}(h:Gx sz n0 w F D xs v S)(hk:∀l o,S[l]?=some o->(∀a b c,v=.arr l a b c->U[l]?=some o)):Gx sz n0 w F D xs v U:=h.imp id fun h=>h.other hk
def Gx.eB{w:Nat}{P:Np->Np->St->Prop}(fm:pF w P){sz n0:Nat}{F0 D0 F D:Np}{xs:List V}{rf:V}{S0 U:St}(h:Gx sz n0 w F D xs rf U)(k:P F D U)(s:Stp w F0 D0 S0 F D U)(hn:S0.length<=n0)(hx:V.dj 0 xs=true)(hw:V.cr xs=xs):
  ∃xC U',xC.under 0=true/\xC.weak=.sl false xs/\(∀a b,(∀v,v∈a->Nf rf v)->(∀v,v∈b->Nf rf v)->cK S0.length (.agg (a++rf::b)) U (.agg (a++xC::b)) U')/\P F D U'/\Stp w F0 D0 S0 F D U'/\
   ∀l o,U[l]?=some o->(∀a b c,rf≠.arr l a b c)->U'[l]?=some o:=by
 have pure:∀b,rf=.sl b xs→_:=fun b hb=>(⟨rf,U,by rw[hb];simpa[V.under] using hx,by rw[hb];simp[V.weak,hw],fun _ _ _ _=>cK.refl _ _ _,k,s,fun l o ho _=>ho⟩:
  ∃xC U',xC.under 0=true/\xC.weak=.sl false xs/\(∀a b,(∀v,v∈a->Nf rf v)->(∀v,v∈b->Nf rf v)->cK S0.length (.agg (a++rf::b)) U (.agg (a++xC::b)) U')/\P F D U'/\Stp w F0 D0 S0 F D U'/\
   ∀l o,U[l]?=some o->(∀a b c,rf≠.arr l a b c)->U'[l]?=some o)
 rcases h with ⟨b,rfl⟩| h
 .exact pure b rfl
 rcases h with ⟨rfl,rfl⟩|⟨l,wr,h1,h2,rfl,h3,h4⟩
 .exact pure true rfl
 .refine⟨.sl false xs,U.set l .dead,by simpa[V.under]using hx,by simp[V.weak,hw],fun a b ha hb=>?_,fm.set k _ h2,s.set _ oM,fun l' o ho hne=>?_⟩
  .have g1:=cK.BG (n:=S0.length) (r:=.agg (a++.arr l 0 xs.length xs.length::b)) h3
   have hz:V.eB l xs wr (.agg (a++.arr l 0 xs.length xs.length::b))=.agg (a++.sl false xs::b):=by
    have ea:a.map (V.eB l xs wr)=a:=by
     conv=>rhs;rw[<-List.map_id a]
     exact lr fun v hv=>ha v hv l _ _ _ rfl xs wr
    have eb:b.map (V.eB l xs wr)=b:=by
     conv=>rhs;rw[<-List.map_id b]
     exact lr fun v hv=>hb v hv l _ _ _ rfl xs wr
    simp only[V.eB,rT,cy,b9];rw[ea,eb,ai (by simp[h4])];simp
   rw[hz]at g1;exact g1
  .rw[bC (by rintro rfl;exact hne _ _ _ rfl)];exact ho
def qcW{w:Nat}{P:Np->Np->St->Prop}(fm:pF w P){n0 n1:Nat}{F0 D0 F D:Np}{S0 U:St}{kd ty:Int}{ow:Bool}{nm:List Bz}{ex:List Ex}{fo:List Fo}{bo:List Sm}{nv fv:V}{c:Nat}{e:af}{o:Nat}(hc:U[o]?=some (.arr [.agg [.int .i64 kd,.bool ow,.int .i64 ty,nv,.sl false (ex.map Ex.v),fv,.sl false (bo.map Sm.v)]] 7 1))(he:e.get c=some (.ptr o 0 0 1))
  (h1:Gx 1 n0 w F D (nm.map .str) nv U) (h2:Gx 4 n1 w F D (fo.map Fo.v) fv U) (hn:S0.length<=n0) (hn':S0.length<=n1) (k:P F D U) (s:Stp w F0 D0 S0 F D U):
  eH [.cell c (some 7)] S0.length (fun r U=>i7 w P F0 D0 S0 (De.mk kd ow ty nm ex fo bo).v r U) .ret e U:=by
 obtain⟨nv',U1,a1,a2,a3,a4,a5,a6⟩:=h1.eB fm k s hn (by simpa[V.under]using Nw false nm) (jL nm);have h2':Gx 4 n1 w F D (fo.map Fo.v) fv U1:=h2.other fun l o ho a b c hv=>a6 l o ho fun a' b' c' hh=>h1.ne h2 oM l a' b' c' a b c hh hv
 obtain⟨fv',U2,b1,b2,b3,b4,b5,b6⟩:=h2'.eB fm a4 a5 hn' (by simpa[V.under]using fZ Fo.dA false fo) (m8 fo)
 have g1:=a3 [.int .i64 kd,.bool ow,.int .i64 ty] [.sl false (ex.map Ex.v),fv,.sl false (bo.map Sm.v)] (by
  intro v hv;simp at hv
  rcases hv with rfl|rfl|rfl <;> exact Nf.under rfl) (by
  intro v hv;simp only[cX,qC,or_false]at hv;rcases hv with rfl|rfl|rfl
  .exact Nf.under (fZ Ex.dA _ _)
  .exact Nf.gx h1 h2 oM (by simpa[V.under]using fZ Fo.dA false fo)
  .exact Nf.under (fZ Sm.dA _ _))
 have g2:=b3 [.int .i64 kd,.bool ow,.int .i64 ty,nv',.sl false (ex.map Ex.v)] [.sl false (bo.map Sm.v)] (by
  intro v hv;simp only[cX,qC,or_false]at hv;rcases hv with rfl|rfl|rfl|rfl|rfl
  .exact Nf.under rfl
  .exact Nf.under rfl
  .exact Nf.under rfl
  .exact Nf.under a1
  ·exact Nf.under (fZ Ex.dA _ _)) (by
  intro v hv;simp only[cX,qC,or_false]at hv;subst hv;exact Nf.under (fZ Sm.dA _ _))
 simp only[cP,eK]at g1 g2;refine⟨[_],by simp only[dm,he,ae,hc];rfl,_,U2,(g1.trans g2).trans cK.weak,?_,F,D,b4,b5⟩;simp only[V.weak,V.cr,a2,b2,jq,i4,De.dJ];rfl
def qcX{w:Nat}{P:Np->Np->St->Prop}(fm:pF w P){n0 n1 n2:Nat}{F0 D0 F D:Np}{S0 U:St}{kd:Int}{tx:Bz}{lb:List Bz}{tg ex:List Ex}{el:List El}{de:List De}{bo:List Sm}{lv ev dv:V}{c:Nat}{e:af}{o:Nat}(hc:U[o]?=some (.arr [.agg [lv,.int .i64 kd,.str tx,.sl false (tg.map Ex.v),.sl false (ex.map Ex.v),ev,dv,.sl false (bo.map Sm.v)]] 8 1))(he:e.get c=some (.ptr o 0 0 1))
  (h1:Gx 1 n0 w F D (lb.map .str) lv U) (h2:Gx 2 n1 w F D (el.map El.v) ev U) (h3:Gx 7 n2 w F D (de.map De.v) dv U) (hn:S0.length<=n0) (hn':S0.length<=n1) (qeX:S0.length<=n2) (k:P F D U) (s:Stp w F0 D0 S0 F D U):
  eH [.cell c (some 8)] S0.length (fun r U=>i7 w P F0 D0 S0 (Sm.mk lb kd tx tg ex el de bo).v r U) .ret e U:=by
 have ul:V.dj 0 (lb.map .str)=true:=by simpa[V.under]using Nw false lb
 have ue:V.dj 0 (el.map El.v)=true:=by simpa[V.under]using fZ El.dA false el
 have ud:V.dj 0 (de.map De.v)=true:=by simpa[V.under]using fZ De.dA false de
 obtain⟨Vt,U1,a1,a2,a3,a4,a5,a6⟩:=h1.eB fm k s hn ul (jL lb);have h2':Gx 2 n1 w F D (el.map El.v) ev U1:=h2.other fun l o ho a b c hv=>a6 l o ho fun a' b' c' hh=>h1.ne h2 oM l a' b' c' a b c hh hv
 have h3':Gx 7 n2 w F D (de.map De.v) dv U1:=h3.other fun l o ho a b c hv=>a6 l o ho fun a' b' c' hh=>h1.ne h3 oM l a' b' c' a b c hh hv
 obtain⟨ev',U2,b1,b2,b3,b4,b5,b6⟩:=h2'.eB fm a4 a5 hn' ue (m7 el);have qez:Gx 7 n2 w F D (de.map De.v) dv U2:=h3'.other fun l o ho a b c hv=>b6 l o ho fun a' b' c' hh=>h2'.ne h3' oM l a' b' c' a b c hh hv
 obtain⟨dv',U3,c1,c2,c3,c4,c5,c6⟩:=qez.eB fm b4 b5 qeX ud (oc de)
 have g1:=a3 [] [.int .i64 kd,.str tx,.sl false (tg.map Ex.v),.sl false (ex.map Ex.v),ev,dv,.sl false (bo.map Sm.v)] (by intro v hv;simp at hv) (by
  intro v hv;simp only[cX,qC,or_false]at hv;rcases hv with rfl|rfl|rfl|rfl|rfl|rfl|rfl
  .exact Nf.under rfl
  .exact Nf.under rfl
  .exact Nf.under (fZ Ex.dA _ _)
  .exact Nf.under (fZ Ex.dA _ _)
  .exact Nf.gx h1 h2 oM ue
  .exact Nf.gx h1 h3 oM ud
  .exact Nf.under (fZ Sm.dA _ _))
 have g2:=b3 [Vt,.int .i64 kd,.str tx,.sl false (tg.map Ex.v),.sl false (ex.map Ex.v)] [dv,.sl false (bo.map Sm.v)] (by
  intro v hv;simp only[cX,qC,or_false]at hv;rcases hv with rfl|rfl|rfl|rfl|rfl
  .exact Nf.under a1
  .exact Nf.under rfl
  .exact Nf.under rfl
  .exact Nf.under (fZ Ex.dA _ _)
  ·exact Nf.under (fZ Ex.dA _ _)) (by
  intro v hv;simp only[cX,qC,or_false]at hv;rcases hv with rfl|rfl
  .exact Nf.gx h2' h3' oM ud
  .exact Nf.under (fZ Sm.dA _ _))
 have g3:=c3 [Vt,.int .i64 kd,.str tx,.sl false (tg.map Ex.v),.sl false (ex.map Ex.v),ev'] [.sl false (bo.map Sm.v)] (by
  intro v hv;simp only[cX,qC,or_false]at hv;rcases hv with rfl|rfl|rfl|rfl|rfl|rfl
  .exact Nf.under a1
  .exact Nf.under rfl
  .exact Nf.under rfl
  .exact Nf.under (fZ Ex.dA _ _)
  .exact Nf.under (fZ Ex.dA _ _)
  ·exact Nf.under b1) (by
  intro v hv;simp only[cX,qC,or_false]at hv;subst hv;exact Nf.under (fZ Sm.dA _ _))
 simp only[cP,eK]at g1 g2 g3;refine⟨[_],by simp only[dm,he,ae,hc];rfl,_,U3,((g1.trans g2).trans g3).trans cK.weak,?_,F,D,c4,c5⟩;simp only[V.weak,V.cr,a2,b2,c2,jq,i4,Sm.dJ];rfl
def Gw.uy{sz sz' n0 w k wr:Nat}{F D:Np}{xs ys:List V}{v:V}{S:St}(h:Gw sz n0 w F D xs v S)(hk:S[k]?=some (.arr ys sz' wr))(hs:sz≠sz'):∀a b c,v≠.arr k a b c:=by
 rintro a b c rfl;rcases h with ⟨_,h⟩|⟨l',wr',h1,h2,h3,h4,h5⟩
 .cases h
 .cases h3;rw[hk]at h4;cases h4;exact hs rfl
def Gw.fK{sz sz' n0 w k wr:Nat}{F D:Np}{xs ys:List V}{v:V}{S:St}(h:Gw sz n0 w F D xs v S)(hk:S[k]?=some (.arr ys sz' wr))(hs:sz≠sz')(o:Ob):Gw sz n0 w F D xs v (S.set k o):=
 by
 rcases h with h|⟨l,wr',h1,h2,h3,h4,h5⟩
 .exact .inl h
 .exact .inr ⟨l,wr',h1,h2,h3,by rw[bC (by rintro rfl;rw[hk]at h4;cases h4;exact hs rfl)];exact h4,h5⟩
structure Cx(w sz:Nat)(P:Np->Np->St->Prop)(F D:Np)(S:St)(x z y:V)(F' D':Np)(U:St):Prop where
 rk:P F' D' U
 st:Stp w F D S F' D' U
 b0:U[S.length]?=some (.arr [x] sz 1)
 b1:U[S.length+1]?=some (.arr [z] sz 1)
 b2:U[S.length+2]?=some (.arr [y] sz 1)
 o0:er w F' D' S.length
 o1:er w F' D' (S.length+1)
 o2:er w F' D' (S.length+2)
section
variable {w sz:Nat} {P P2:Np->Np->St->Prop} {F D F' D' F2 D2:Np} {S U U2:St} {x z y:V}
theorem Cx.call(c:Cx w sz P F D S x z y F' D' U)(k:P2 F2 D2 U2)(s:Stp w F' D' U F2 D2 U2):Cx w sz P2 F D S x z y F2 D2 U2:=
 ⟨k,c.st.trans s,s.at c.o0 c.b0,s.at c.o1 c.b1,s.at c.o2 c.b2,c.o0.next (aM c.b0) s,c.o1.next (aM c.b1) s,c.o2.next (aM c.b2) s⟩
theorem Cx.app(c:Cx w sz P F D S x z y F' D' U){gv:V}(k:P F' D' U2)(s:Stp w F D S F' D' U2)(ho:∀l o,U[l]?=some o->(∀a b c,gv≠.arr l a b c)->U2[l]?=some o)(hg:∀k ys wr,U[k]?=some (.arr ys sz wr)->∀a b c,gv≠.arr k a b c):Cx w sz P F D S x z y F' D' U2:=
 ⟨k,s,ho _ _ c.b0 (hg _ _ _ c.b0),ho _ _ c.b1 (hg _ _ _ c.b1),ho _ _ c.b2 (hg _ _ _ c.b2),c.o0,c.o1,c.o2⟩
theorem Cx.put(fm:pF w P)(c:Cx w sz P F D S x z y F' D' U)(y':V):Cx w sz P F D S x z y' F' D' (U.set (S.length+2) (.arr [y'] sz 1)):=
 ⟨fm.set c.rk _ c.o2,c.st.set _ oM,by rw[bC oM];exact c.b0,by rw[bC oM];exact c.b1,bJ (aM c.b2),c.o0,c.o1,c.o2⟩
theorem Cx.push(fm:pF w P)(c:Cx w sz P F D S x z y F' D' U)(os:List Ob):Cx w sz P F D S x z y F' D' (U++os):=
 ⟨fm.push c.rk _,c.st.push _,yV c.b0,yV c.b1,yV c.b2,c.o0,c.o1,c.o2⟩
end
def vF(len:Nat)(A:Nat->V->Np->Np->St->Prop)(env:Nat->V->af)(j:Nat)(e:af)(U:St):Prop:=∃(i:Nat) (gv:V) (F' D':Np),j=len-i/\i<=len/\A i gv F' D' U/\e=env i gv
def tz(A:V->Np->Np->St->Prop)(env:V->af)(e:af)(U:St):Prop:=∃(gv:V) (F' D':Np),A gv F' D' U/\af.sub (env gv) e
abbrev yC:V:=.agg [.int .i64 0,.bool false,.int .i64 0,.sl true [],.sl true [],.sl true [],.sl true []]
abbrev iH(d:De)(nv ev fv bv:V):V:=.agg [.int .i64 d.kind,.bool d.own,.int .i64 d.type,nv,ev,fv,bv]
def De.Dv(r:Rp)(own sc:ag)(n:Nat)(d:De):d.rw r own sc n=if d.kind=4 then .mk d.kind d.own d.type (d.names.map (cN r own)) (Ex.bk r own d.ak) (d.aB.map (Fo.rw r (ah (d.aB.map Fo.name) n::own))) (Sm.fY r (ah (d.aB.map Fo.name) n::own) (n+(ah (d.aB.map Fo.name) n).length) d.body)
  else .mk d.kind d.own d.type (d.names.map (cN r own)) (Ex.bk r (if d.kind=2 then sc else own) d.ak) d.aB d.body:=by
 cases d;rw[De.rw];rfl
def De.Du(r:Rp)(own sc:ag)(n:Nat)(st:bp)(d:De):d.rs r own sc n st=if d.kind=4 then Sm.ip r (ah (d.aB.map Fo.name) n::own) (n+(ah (d.aB.map Fo.name) n).length) (Ex.aP r own st d.ak) d.body
  else Ex.aP r (if d.kind=2 then sc else own) st d.ak:=by
 cases d;rw[De.rs];rfl
def De.Je(d:De):d.bn=if d.kind=4 then bY (d.aB.map Fo.name)++Sm.eS d.body else []:=by
 cases d;rw[De.bn];rfl
def map_take{α β:Type}(f:α->β)(l:List α)(i:Nat)(h:i<l.length):(l.take (i+1)).map f=(l.take i).map f++[f l[i]]:=by
 rw[cY,bI h,gZ,cy];rfl
def kM{U:St}{l sz:Nat}{cs:List V}{j:Nat}{v:V}(h:U[l]?=some (.arr [.agg cs] sz 1))(hv:v.cells=[v]/\v.flat=true/\v.size=1)(hj:j+1<=cs.length)(hc:cs.length≠1):aA U (.ptr l 0 j 1) 1 v=some (U.set l (.arr [.agg (cs.take j++v::cs.drop (j+1))] sz 1)):=by
 have h0:¬(j=0/\1=cs.length):=fun hh=>hc hh.2.symm
 simp[aA,h,aE,hv.1,hv.2.1,hv.2.2,hj,h0]
def Gx.fK{sz sz' n0 w k wr:Nat}{F D:Np}{xs ys:List V}{v:V}{S:St}(h:Gx sz n0 w F D xs v S)(hk:S[k]?=some (.arr ys sz' wr))(hs:sz≠sz')(o:Ob):Gx sz n0 w F D xs v (S.set k o):=h.imp id fun h=>h.fK hk hs o
def Gw.nr{n0 w:Nat}{F D:Np}{names:List Bz}{v:V}{S:St}(h:Gw 1 n0 w F D (names.map .str) v S):Nr w F D names v S:=by
 rcases h with ⟨h1,rfl⟩|⟨l,wr,h1,h2,rfl,h4,h5⟩
 .rw[List.map_eq_nil_iff]at h1;subst h1;exact .inl ⟨true,rfl⟩
 .rw[bu]at h5 |-;exact .inr ⟨l,wr,h2,rfl,h4,h5⟩
def qla(r:Rp)(ho:pL r)(bf bt:Bool)(w:Nat)(fv:V)(d:De)(H:∀s,s∈d.body->vU r bf bt w fv s)(hsz:(Pa.de d).size<=4000)(bound:List Bz)(st:bp)(F D:Np)(S:St)(b b':Bool)(sc own:ag)(hk:Rk r bf bt w fv bound st F D S)(ok:oG bound st own d.nb (Pa.de d).size)(hd:nw sc)(hfl:(ag.flat sc).length<=bound.length):
  au prog 230 [.ptr w 0 0 1,d.v,.sl b ((ag.flat sc).map cz),.sl b' ((ag.flat own).map cz)] S (fun v U=>i7 w (Rk r bf bt w fv (bound++d.bn) (d.rs r own sc bound.length st)) F D S (d.rw r own sc bound.length).v v U):=by
 refine au.ib PR ?_;have hparts:=De.mZ d;have iK:=ok.bo;have hfr:=ok.fr;have hof:=ok.fl;rw[De.Dv,De.Du,De.Je];rw[De.CU]at iK;have fm:=fun bo s=>Rk.jV r bf bt w fv bo s
 obtain⟨ev,hev⟩:∃ev,ev=V.sl false (d.ak.map Ex.v):=⟨_,rfl⟩;obtain⟨nH,Ko⟩:∃nH,nH=V.sl false (d.aB.map Fo.v):=⟨_,rfl⟩;obtain⟨bv,hbv⟩:∃bv,bv=V.sl false (d.body.map Sm.v):=⟨_,rfl⟩;obtain⟨S2,hS2⟩:∃S2:St,S2=S++[.arr [d.v] 7 1,.arr [yC] 7 1,.arr [iH d (.sl true []) ev nH bv] 7 1]:=⟨_,rfl⟩
 have C0:Cx w 7 (Rk r bf bt w fv bound st) F D S d.v yC (iH d (.sl true []) ev nH bv) F D S2:=by
  refine⟨by rw[hS2];exact(fm _ _).push hk _,by rw[hS2];exact(Stp.refl _ _ _ _).push _,?_,?_,?_,(fm _ _).out hk oM,(fm _ _).out hk oM,(fm _ _).out hk oM⟩
  all_goals rw[hS2,bK oM];simp
 have fin:∀{bo s F' D' U} (nm:List Bz) (ex:List Ex) (fo:List Fo) (bd:List Sm) (nv fx:V),Cx w 7 (Rk r bf bt w fv bo s) F D S d.v yC (iH d nv (.sl false (ex.map Ex.v)) fx (.sl false (bd.map Sm.v))) F' D' U->Gx 1 S.length w F' D' (nm.map .str) nv U->Gx 4 S.length w F' D' (fo.map Fo.v) fx U->
   ae U (.ptr (S.length+2) 0 0 1) (some 7)=some (iH d nv (.sl false (ex.map Ex.v)) fx (.sl false (bd.map Sm.v)))/\∃U',aA U (.ptr (S.length+1) 0 0 1) 7 (iH d nv (.sl false (ex.map Ex.v)) fx (.sl false (bd.map Sm.v)))=some U'/\
   ∀e:af,e.get 8=some (.ptr (S.length+1) 0 0 1)->eH [.cell 8 (some 7)] S.length (fun v U=>i7 w (Rk r bf bt w fv bo s) F D S (De.mk d.kind d.own d.type nm ex fo bd).v v U) .ret e U':=by
  intro bo s F' D' U nm ex fo bd nv fx hC h1 h2;have f1:=h1.oS;have f2:=h2.oS;have hl:∀x:V,x.flat=true->True:=fun _ _=>trivial
  refine⟨by simp[ae,hC.b2,cH],U.set (S.length+1) (.arr [iH d nv (.sl false (ex.map Ex.v)) fx (.sl false (bd.map Sm.v))] 7 1),by simp[aA,hC.b1,aE,f1.2.1,f2.2.1],fun e he=>?_⟩;exact qcW (fm bo s) (bJ (aM hC.b1)) he (h1.fK hC.b1 oM _) (h2.fK hC.b1 oM _) bL bL ((fm bo s).set hC.rk _ hC.o1) (hC.st.set _ oM)
 simp[PR,aC,aZ,aA,ae,DX,aE];rw[<-hev,<-Ko,<-hbv];rw[<-hS2];obtain⟨A,hA⟩:∃A:Nat->V->Np->Np->St->Prop,∀i gv F' D' U,A i gv F' D' U↔(Cx w 7 (Rk r bf bt w fv bound st) F D S d.v yC (iH d gv ev nH bv) F' D' U/\Gw 1 S.length w F' D' (((d.names.take i).map (cN r own)).map .str) gv U):=⟨_,fun _ _ _ _ _=>Iff.rfl⟩;refine du (tz (A d.names.length) fun _=>[(0,.ptr w 0 0 1),(2,.sl b ((ag.flat sc).map cz)),(3,.sl b' ((ag.flat own).map cz)),(5,.ptr S.length 0 0 1),(8,.ptr (S.length+1) 0 0 1),(9,.ptr (S.length+2) 0 0 1)]) ?_ ?_
 .refine bN (vF d.names.length A fun i _=>[(10,.int .i64 i),(0,.ptr w 0 0 1),(2,.sl b ((ag.flat sc).map cz)),(3,.sl b' ((ag.flat own).map cz)),(5,.ptr S.length 0 0 1),(8,.ptr (S.length+1) 0 0 1),(9,.ptr (S.length+2) 0 0 1)]) d.names.length _ ?_ ⟨0,_,F,D,by simp,by omega,(hA _ _ _ _ _).2 ⟨C0,Gw.nil _ _ _ _ _ _⟩,rfl⟩ ?_
  .exact aN
  rintro j e U ⟨i,gv,F1,D1,rfl,hi,hI,rfl⟩;obtain⟨hC,hg⟩:=(hA _ _ _ _ _).1 hI;have hn:ae U (.ptr S.length 0 3 1) none=some (.sl false (d.names.map .str)):=by simp[ae,hC.b0]
  by_cases hlt:i<d.names.length
  .have hia:=jb hlt false U;have hgv:ae U (.ptr (S.length+2) 0 3 1) none=some gv:=by simp[ae,hC.b2]
   have hfs:fits 1 [V.str (cN r own d.names[i])]=true:=rfl;obtain⟨wH,U2,ha,hg2,k2,s2,a5,a6⟩:=hg.pQ (fm bound st) (bytes:=16) (b:=true) (y:=.str (cN r own d.names[i])) hC.rk hC.st hfs (by simp;omega);have C2:=hC.app (gv:=gv) k2 s2 a5 fun k ys wr hk'=>hg.uy hk' oM
   have hst:=kM (j:=3) C2.b2 hg2.oS sM sM;simp only[List.take,List.drop,cP,eK]at hst;have C3:=C2.put (fm bound st) (iH d wH ev nH bv);have hg3:=hg2.fK C2.b2 oM (.arr [iH d wH ev nH bv] 7 1);have hm:((d.names.take (i+1)).map (cN r own)).map V.str=((d.names.take i).map (cN r own)).map .str++[.str (cN r own d.names[i])]:=by rw[map_take _ _ _ hlt,cy];rfl
   rw[<-hm]at hg3;simp[hn,hlt,hgv,hia,cF];refine iu (HB r bf bt w fv bound st F1 D1 U hC.rk b' own ok.nd oM d.names[i]) ?_;simp[hfs,ha,hst];simp[cU,dx,dG,hgv];simp[bP i];refine⟨_,?_,_,?_,i+1,wH,F1,D1,rfl,by omega,(hA _ _ _ _ _).2 ⟨C3,hg3⟩,rfl⟩
   .omega
   .exact aN
  .have:i=d.names.length:=by omega
   subst this;simp[hn];refine⟨gv,F1,D1,hI,?_⟩;exact aN
 rintro e U ⟨gv,F0,D0,hI,hsub⟩;obtain⟨hC,hg⟩:=(hA _ _ _ _ _).1 hI;rw[eR]at hg;have g0:e.get 0=_:=hsub 0 _ rfl;have g2:e.get 2=_:=hsub 2 _ rfl;have g3:e.get 3=_:=hsub 3 _ rfl;have g5:e.get 5=_:=hsub 5 _ rfl;have g8:e.get 8=_:=hsub 8 _ rfl;have g9:e.get 9=_:=hsub 9 _ rfl;have hkd:ae U (.ptr S.length 0 0 1) none=some (.int .i64 d.kind):=by simp[ae,hC.b0]
 have hxd:ae U (.ptr S.length 0 4 1) none=some ev:=by rw[hev];simp[ae,hC.b0]
 by_cases h2:d.kind=2
 .have h4:d.kind≠4:=by omega
  rw[aj h4,aj h4,aj h4,ai h2,kR];simp[g0,g2,g5,g9,hkd,hxd,h2];rw[hev];refine aU (DK r ho bf bt w fv d.ak oM bound st F0 D0 U false b sc hC.rk hd oM oM) ?_;rintro v U2 ⟨rfl,F1,D1,k1,s1⟩;have C1:=hC.call k1 s1;have hst:=kM (j:=4) (v:=.sl false ((Ex.bk r sc d.ak).map Ex.v)) C1.b2 ⟨rfl,rfl,rfl⟩ sM sM;simp only[List.take,List.drop,cP,eK]at hst;have C2:=C1.put (fm _ _) (iH d gv (.sl false ((Ex.bk r sc d.ak).map Ex.v)) nH bv);have hg2:=(hg.step s1).fK C1.b2 oM (.arr [iH d gv (.sl false ((Ex.bk r sc d.ak).map Ex.v)) nH bv] 7 1);subst hbv Ko;obtain⟨p1,U3,p2,p3⟩:=fin (d.names.map (cN r own)) (Ex.bk r sc d.ak) d.aB d.body gv _ C2 (.inr hg2) (.inl ⟨false,rfl⟩);simp[g8,g9,hst,p1,p2]
  first|exact p3 _ g8|(rw[h2]at p3;exact p3 _ g8)
 simp[g0,g3,g5,g9,hkd,hxd,h2];rw[hev];refine aU (DK r ho bf bt w fv d.ak oM bound st F0 D0 U false b' own hC.rk ok.nd oM oM) ?_;rintro v U2 ⟨rfl,F1,D1,k1,s1⟩;have C1:=hC.call k1 s1;obtain⟨ev1,hev1⟩:∃ev1,ev1=V.sl false ((Ex.bk r own d.ak).map Ex.v):=⟨_,rfl⟩;have hst:=kM (j:=4) (v:=ev1) C1.b2 (by rw[hev1];exact⟨rfl,rfl,rfl⟩) sM sM;simp only[List.take,List.drop,cP,eK]at hst;have C2:=C1.put (fm _ _) (iH d gv ev1 nH bv);have hg2:=(hg.step s1).fK C1.b2 oM (.arr [iH d gv ev1 nH bv] 7 1);rw[<-hev1];obtain⟨U3,mN⟩:∃U3,U3=U2.set (S.length+2) (.arr [iH d gv ev1 nH bv] 7 1):=⟨_,rfl⟩;rw[<-mN]at hst C2 hg2;have hkd:ae U3 (.ptr S.length 0 0 1) none=some (.int .i64 d.kind):=by simp[ae,C2.b0]
 by_cases h4:d.kind=4
 case neg=>
  rw[aj h4,aj h4,aj h4,kR]
  try simp only[aj h2]
  subst hbv Ko hev1;obtain⟨p1,U4,p2,p3⟩:=fin (d.names.map (cN r own)) (Ex.bk r own d.ak) d.aB d.body gv _ C2 (.inr hg2) (.inl ⟨false,rfl⟩);simp[g5,g8,g9,hst,hkd,h4,p1,p2];exact p3 _ g8
 rw[ai h4,ai h4,ai h4];rw[ai h4]at iK;unfold De.uH at iK;obtain⟨st1,hst1⟩:∃st1,st1=Ex.aP r own st d.ak:=⟨_,rfl⟩;have Ux:=Ex.iq r own d.ak st;rw[<-hst1]at C2 Ux |-;simp[g5,g9,hst,hkd,h4];obtain⟨names,wO⟩:∃names,names=d.aB.map Fo.name:=⟨_,rfl⟩;have hnl:names.length=d.aB.length:=by rw[wO];simp
 obtain⟨B,hB⟩:∃A:Nat->V->Np->Np->St->Prop,∀i hv F' D' U,A i hv F' D' U↔(Cx w 7 (Rk r bf bt w fv bound st1) F D S d.v yC (iH d gv ev1 nH bv) F' D' U/\Gw 1 S.length w F' D' ((d.names.map (cN r own)).map .str) gv U/\Gw 1 S.length w F' D' (((d.aB.take i).map Fo.name).map .str) hv U/\wq hv gv):=⟨_,fun _ _ _ _ _=>Iff.rfl⟩;refine du (tz (B d.aB.length) fun hv=>[(11,hv),(0,.ptr w 0 0 1),(3,.sl b' ((ag.flat own).map cz)),(5,.ptr S.length 0 0 1),(8,.ptr (S.length+1) 0 0 1),(9,.ptr (S.length+2) 0 0 1)]) ?_ ?_
 .refine bN (vF d.aB.length B fun i hv=>[(12,.int .i64 i),(11,hv),(0,.ptr w 0 0 1),(3,.sl b' ((ag.flat own).map cz)),(5,.ptr S.length 0 0 1),(8,.ptr (S.length+1) 0 0 1),(9,.ptr (S.length+2) 0 0 1)]) d.aB.length _ ?_ ⟨0,_,F1,D1,by simp,by omega,(hB _ _ _ _ _).2 ⟨C2,hg2,Gw.nil _ _ _ _ _ _,fun l a b c hh=>V.noConfusion hh⟩,rfl⟩ ?_
  .repeat' first|exact af.fh _|refine af.dV (by simp[g0,g3,g5,g8,g9]) ?_
  rintro j e U ⟨i,hv,F1,D1,rfl,hi,hI,rfl⟩;obtain⟨hC,hg,hh,hdf⟩:=(hB _ _ _ _ _).1 hI;have hn:ae U (.ptr S.length 0 5 1) none=some (.sl false (d.aB.map Fo.v)):=by simp[ae,hC.b0]
  by_cases hlt:i<d.aB.length
  .have hia:=qO hlt false U;have hfs:fits 1 [V.str d.aB[i].name]=true:=rfl;obtain⟨hv',U2,ha,hh2,k2,s2,a5,a6⟩:=hh.pQ (fm bound st1) (bytes:=16) (b:=true) (y:=.str d.aB[i].name) hC.rk hC.st hfs (by simp;omega);have C2:=hC.app (gv:=hv) k2 s2 a5 fun k ys wr hk'=>hh.uy hk' oM
   have hg':=hg.other fun l o ho a b c hv'=>a5 l o ho fun a' b' c' hh=>hdf l a' b' c' hh a b c hv'
   have hm:((d.aB.take (i+1)).map Fo.name).map V.str=((d.aB.take i).map Fo.name).map .str++[.str d.aB[i].name]:=by rw[map_take _ _ _ hlt,cy];rfl
   rw[<-hm]at hh2;have JR:=hg.lt
   have df2:wq hv' gv:=fun l a b c hh a' b' c' hg=>by
    rcases a6 l a b c hh with h1|h1
    .exact hdf l _ _ _ h1 _ _ _ hg
    .have:=JR l _ _ _ hg;omega
   simp[hn,hlt,hia,hfs,ha,bP i];refine⟨_,?_,_,?_,i+1,hv',F1,D1,rfl,by omega,(hB _ _ _ _ _).2 ⟨C2,hg',hh2,df2⟩,rfl⟩
   .omega
   .exact aN
  .have:i=d.aB.length:=by omega
   subst this;simp[hn];refine⟨hv,F1,D1,hI,?_⟩;exact aN
 clear hsub g0 g2 g3 g5 g8 g9;rintro e U4 ⟨hv,F4,D4,hI,hsub⟩;obtain⟨C4,hg4,hh4,_⟩:=(hB _ _ _ _ _).1 hI;rw[eR,<-wO]at hh4;have g0:e.get 0=_:=hsub 0 _ rfl;have g3:e.get 3=_:=hsub 3 _ rfl;have g5:e.get 5=_:=hsub 5 _ rfl;have g8:e.get 8=_:=hsub 8 _ rfl;have g9:e.get 9=_:=hsub 9 _ rfl;have g11:e.get 11=_:=hsub 11 _ rfl;simp[g0,g3,g11];refine aU (M3 r bf bt w fv bound st1 F4 D4 U4 C4.rk b' own names hv hh4.nr oM oM) ?_;rintro v U5 ⟨rfl,F2,D2,k5,s5⟩;have C5:=C4.call k5 s5;have hg5:=hg4.step s5;rw[<-wO];obtain⟨inner,BR⟩:∃inner,inner=ah names bound.length::own:=⟨_,rfl⟩;have hbl:(bound++bY names).length=bound.length+(ah names bound.length).length:=by rw[cJ,CW _ bound.length]
 have qh:oG (bound++bY names) st1 inner (Sm.aX d.body) (aY (d.body.map Pa.st)):=by
  rw[BR];exact oG.enter (nb:=(ah names 0).length+Sm.aX d.body) ⟨ok.nd,hof,by rw[wO];omega,by omega⟩ names bL
 have hfi:=qh.fl;have hbi:=qh.bo;rw[<-BR];have hst5:=kM (j:=5) (v:=.sl true []) C5.b2 ⟨rfl,rfl,rfl⟩ sM sM;simp only[List.take,List.drop,cP,eK]at hst5;have C6:=C5.put (fm _ _) (iH d gv ev1 (.sl true []) bv);have wM:=hg5.fK C5.b2 oM (.arr [iH d gv ev1 (.sl true []) bv] 7 1);simp[g9,hst5];obtain⟨E,hE⟩:∃A:Nat->V->Np->Np->St->Prop,∀i xv F' D' U,A i xv F' D' U↔(Cx w 7 (Rk r bf bt w fv (bound++bY names) st1) F D S d.v yC (iH d gv ev1 xv bv) F' D' U/\Gw 1 S.length w F' D' ((d.names.map (cN r own)).map .str) gv U/\Gw 4 S.length w F' D' (((d.aB.take i).map (Fo.rw r inner)).map Fo.v) xv U):=⟨_,fun _ _ _ _ _=>Iff.rfl⟩;refine du (tz (E d.aB.length) fun _=>[(13,.sl false ((ag.flat inner).map cz)),(0,.ptr w 0 0 1),(5,.ptr S.length 0 0 1),(8,.ptr (S.length+1) 0 0 1),(9,.ptr (S.length+2) 0 0 1)]) ?_ ?_
 .refine bN (vF d.aB.length E fun i _=>[(14,.int .i64 i),(13,.sl false ((ag.flat inner).map cz)),(0,.ptr w 0 0 1),(5,.ptr S.length 0 0 1),(8,.ptr (S.length+1) 0 0 1),(9,.ptr (S.length+2) 0 0 1)]) d.aB.length _ ?_ ⟨0,_,F2,D2,by simp,by omega,(hE _ _ _ _ _).2 ⟨C6,wM,Gw.nil _ _ _ _ _ _⟩,rfl⟩ ?_
  .repeat' first|exact af.fh _|refine af.dV (by simp[g0,g3,g5,g8,g9]) ?_
  rintro j e U ⟨i,xv,F2,D2,rfl,hi,hI,rfl⟩;obtain⟨hC,hg,hx⟩:=(hE _ _ _ _ _).1 hI;have hn:ae U (.ptr S.length 0 5 1) none=some (.sl false (d.aB.map Fo.v)):=by simp[ae,hC.b0]
  by_cases hlt:i<d.aB.length
  .have hia:=qO hlt false U;obtain⟨f,hf⟩:∃f,f=d.aB[i]:=⟨_,rfl⟩;rw[<-hf]at hia;obtain⟨f',hf'⟩:∃f',f'=Fo.rw r inner f:=⟨_,rfl⟩;have C7:=hC.push (fm _ _) [.arr [f.v] 4 1];have q:=HB r bf bt w fv (bound++bY names) st1 F2 D2 _ C7.rk false inner qh.nd oM f.name;have C8:=hC.push (fm _ _) [.arr [f'.v] 4 1];have yX:=hg.push [.arr [f'.v] 4 1];have rZ:=hx.push [.arr [f'.v] 4 1];have hfs:fits 4 [f'.v]=true:=rfl;obtain⟨nf,U2,ha,hx2,k2,s2,a5,a6⟩:=rZ.pQ (fm _ _) (bytes:=40) (b:=true) (y:=f'.v) C8.rk C8.st hfs (by simp;omega);have C9:=C8.app (gv:=xv) k2 s2 a5 fun k ys wr hk'=>rZ.uy hk' oM
   have Uz:=kM (j:=5) C9.b2 hx2.oS sM sM;simp only[List.take,List.drop,cP,eK]at Uz;have N5:=C9.put (fm _ _) (iH d gv ev1 nf bv);have UE:=hx2.fK C9.b2 oM (.arr [iH d gv ev1 nf bv] 7 1);have BQ:=yX.other fun l o ho a b c hv'=>a5 l o ho fun a' b' c' hh=>(Gx.ne (.inr rZ) (.inr yX) oM) l a' b' c' a b c hh hv'
   have qeS:=BQ.fK C9.b2 oM (.arr [iH d gv ev1 nf bv] 7 1);have hm:((d.aB.take (i+1)).map (Fo.rw r inner)).map Fo.v=((d.aB.take i).map (Fo.rw r inner)).map Fo.v++[f'.v]:=by rw[map_take _ _ _ hlt,cy,hf',hf];rfl
   rw[<-hm]at UE;have hxv:ae (U++[.arr [f'.v] 4 1]) (.ptr (S.length+2) 0 5 1) none=some xv:=by simp[ae,C8.b2]
   have hnm:ae (U++[.arr [f.v] 4 1]) (.ptr U.length 0 0 1) none=some (.str f.name):=by simp[ae]
   have qfl:aA (U++[.arr [f.v] 4 1]) (.ptr U.length 0 0 1) 1 (.str (cN r inner f.name))=some (U++[.arr [f'.v] 4 1]):=by
    simp[aA,qab,aE,hf',Fo.rw,Fo.v]
   have qeV:ae (U++[.arr [f'.v] 4 1]) (.ptr U.length 0 0 1) (some 4)=some f'.v:=by simp[ae]
   have qfk:aA (U++[.arr [.agg [.str ⟨⟨[]⟩⟩,.bool false,.int .i64 0,.int .i64 0]] 4 1]) (.ptr U.length 0 0 1) 4 f.v=some (U++[.arr [f.v] 4 1]):=by
    simp[aA,aE]
   simp[hn,hlt,hia,aC,aZ,qfk,hnm];refine aG q ?_;simp[qfl,hxv,qeV,hfs,ha,Uz,bP i];refine⟨_,?_,_,?_,i+1,nf,F2,D2,rfl,by omega,(hE _ _ _ _ _).2 ⟨N5,qeS,UE⟩,rfl⟩
   .omega
   .exact aN
  .have:i=d.aB.length:=by omega
   subst this;simp[hn];refine⟨xv,F2,D2,hI,?_⟩;exact aN
 clear hsub g0 g3 g5 g8 g9 g11;rintro e U7 ⟨xv,F7,D7,hI,hsub⟩;obtain⟨C7,rW,hx7⟩:=(hE _ _ _ _ _).1 hI;rw[eR]at hx7;have g0:e.get 0=_:=hsub 0 _ rfl;have g5:e.get 5=_:=hsub 5 _ rfl;have g8:e.get 8=_:=hsub 8 _ rfl;have g9:e.get 9=_:=hsub 9 _ rfl;have g13:e.get 13=_:=hsub 13 _ rfl;have hbd:ae U7 (.ptr S.length 0 6 1) none=some (.sl false (d.body.map Sm.v)):=by simp[ae,C7.b0]
 have q:=ZE r bf bt w fv d.body H oM _ st1 F7 D7 U7 false false inner C7.rk qh;simp[g0,g5,g13,hbd];refine aU q ?_;rintro v U8 ⟨rfl,F3,D3,k8,s8⟩;have C8:=C7.call k8 s8;have hst:=kM (j:=6) (v:=.sl false ((Sm.fY r inner (bound++bY names).length d.body).map Sm.v)) C8.b2 ⟨rfl,rfl,rfl⟩ sM sM;simp only[List.take,List.drop,cP,eK]at hst;have C9:=C8.put (fm _ _) (iH d gv ev1 xv (.sl false ((Sm.fY r inner (bound++bY names).length d.body).map Sm.v)));have BQ:=(rW.step s8).fK C8.b2 oM (.arr [iH d gv ev1 xv (.sl false ((Sm.fY r inner (bound++bY names).length d.body).map Sm.v))] 7 1);have KE:=(hx7.step s8).fK C8.b2 oM (.arr [iH d gv ev1 xv (.sl false ((Sm.fY r inner (bound++bY names).length d.body).map Sm.v))] 7 1);subst hev1;obtain⟨p1,U9,p2,p3⟩:=fin (d.names.map (cN r own)) (Ex.bk r own d.ak) (d.aB.map (Fo.rw r inner)) _ gv xv C9 (.inr BQ) (.inr KE);rw[cO,hbl]at p3;rw[hbl]at hst p1 p2;simp[g8,g9,hbl,hst,p1,p2]
 first|exact p3 _ g8|(rw[h4]at p3;exact p3 _ g8)
abbrev ey(s:Sm)(lv tx tg ex el dv bv:V):V:=.agg [lv,.int .i64 s.kind,tx,tg,ex,el,dv,bv]
def Sm.Dv(r:Rp)(sc:ag)(n:Nat)(s:Sm):s.rw r sc n=
  if s.kind=7 then .mk (s.labels.map (cN r sc)) s.kind s.text s.targets s.ak s.elems (De.bk r (ah (bM s.decls s.body) n::sc) sc (n+(ah (bM s.decls s.body) n).length) s.decls) (Sm.bk r (ah (bM s.decls s.body) n::sc) (n+(ah (bM s.decls s.body) n).length+De.aJ s.decls) s.body)
  else if s.kind=8 then .mk (s.labels.map (cN r sc)) s.kind s.text s.targets s.ak s.elems s.decls (Sm.bk r (ah (bq s.body) n::sc) (n+(ah (bq s.body) n).length) s.body)
  else .mk (s.labels.map (cN r sc)) s.kind (if s.kind=6 then j0 r sc s.text else s.text) (Ex.bk r sc s.targets) (Ex.bk r sc s.ak) (s.elems.map (El.rw r sc)) s.decls (Sm.fY r sc n s.body):=by
 cases s;rw[Sm.rw];rfl
def Sm.Du(r:Rp)(sc:ag)(n:Nat)(st:bp)(s:Sm):s.rs r sc n st=
  if s.kind=7 then Sm.aP r (ah (bM s.decls s.body) n::sc) (n+(ah (bM s.decls s.body) n).length+De.aJ s.decls) (De.aP r (ah (bM s.decls s.body) n::sc) sc (n+(ah (bM s.decls s.body) n).length) st s.decls) s.body
  else if s.kind=8 then Sm.aP r (ah (bq s.body) n::sc) (n+(ah (bq s.body) n).length) st s.body
  else Sm.ip r sc n (Ex.aP r sc (El.aP r sc (qq r sc (if s.kind=6 then jl r sc s.text st else st) s.targets) s.elems) s.ak) s.body:=by
 cases s;rw[Sm.rs];rfl
def Sm.Je(s:Sm):s.bn=if s.kind=7 then bY (bM s.decls s.body)++De.bS s.decls++Sm.bS s.body else if s.kind=8 then bY (bq s.body)++Sm.bS s.body else Sm.eS s.body:=by
 cases s;rw[Sm.bn];rfl
def qg4(l:List De)(i:Nat)(h:i<l.length):De.aJ (l.take (i+1))=De.aJ (l.take i)+l[i].nb/\De.aJ (l.take (i+1))<=De.aJ l:=by
 have ht:l.take (i+1)=l.take i++[l[i]]:=by rw[cY,bI h];rfl
 refine⟨by rw[ht,De.qf];simp[De.aJ],?_⟩;have:De.aJ l=De.aJ (l.take (i+1))+De.aJ (l.drop (i+1)):=by rw[<-De.qf,lA]
 omega
def zp:∀l:List De,(l.flatMap De.names).length<=aY (l.map Pa.de)
 |[]=>by simp
 |x::m=>by
  have ih:=zp m;have:=De.mZ x;simp only[iO,cJ,b9,fq]at ih |-;omega
def qgZ(l:List De)(i:Nat)(h:i<l.length):(l.take (i+1)).flatMap De.names=(l.take i).flatMap De.names++l[i].names/\((l.take i).flatMap De.names).length+l[i].names.length<=aY (l.map Pa.de):=by
 have ht:l.take (i+1)=l.take i++[l[i]]:=by rw[cY,bI h];rfl
 refine⟨by rw[ht,AB];simp,?_⟩;have h1:=zp (l.take i);have h2:=zQ Pa.de l i h;have h3:=De.mZ l[i];omega
def El.ri(r:Rp)(sc:ag)(l m:List El)(st:bp):El.aP r sc st (l++m)=El.aP r sc (El.aP r sc st l) m:=pG ..
def M6(r:Rp)(ho:pL r)(bf bt:Bool)(w:Nat)(fv:V):∀(m:Nat) (s:Sm),(Pa.st s).size<=m->m<=4000->vU r bf bt w fv s
 |0,s,hx,_=>by have:=(Pa.st s).size_pos;omega
 |m+1,s,hx,hm=>by
  intro bound st F D S b sc hk ok;have hparts:=Sm.mZ s
  have vD:∀y,y∈s.body→vU r bf bt w fv y:=fun y hy=>M6 r ho bf bt w fv m y (by
   obtain⟨i,hi⟩:=jA (jO (f:=Pa.st) hy);have:=jH hi;omega) oM
  have Il:∀d,d∈s.decls→∀y,y∈d.body→vU r bf bt w fv y:=fun d hd y hy=>M6 r ho bf bt w fv m y (by
   obtain⟨i,hi⟩:=jA (jO (f:=Pa.de) hd);have h1:=jH hi;have h2:=De.mZ d;obtain⟨j,hj⟩:=jA (jO (f:=Pa.st) hy);have:=jH hj;omega) oM
  have hbl:s.body.length<=4000:=by have:=jm (s.body.map Pa.st);rw[bu]at this;omega
  have hdl:s.decls.length<=4000:=by have:=jm (s.decls.map Pa.de);rw[bu]at this;omega
  have hell:s.elems.length<=4000:=by have:=jm (s.elems.map Pa.el);rw[bu]at this;omega
  have iK:=ok.bo;have hfr:=ok.fr;have hof:=ok.fl;rw[Sm.CU]at iK;refine au.ib Ph ?_;rw[Sm.Dv,Sm.Du,Sm.Je];have fm:=fun bo s=>Rk.jV r bf bt w fv bo s
  obtain⟨tg,uc⟩:∃x,x=V.sl false (s.targets.map Ex.v):=⟨_,rfl⟩;obtain⟨ex,hex⟩:∃x,x=V.sl false (s.ak.map Ex.v):=⟨_,rfl⟩;obtain⟨el,hel⟩:∃x,x=V.sl false (s.elems.map El.v):=⟨_,rfl⟩;obtain⟨dv,hdv⟩:∃x,x=V.sl false (s.decls.map De.v):=⟨_,rfl⟩;obtain⟨bv,hbv⟩:∃x,x=V.sl false (s.body.map Sm.v):=⟨_,rfl⟩;obtain⟨S2,hS2⟩:∃S2:St,S2=S++[.arr [s.v] 8 1,.arr [bX] 8 1,.arr [ey s (.sl true []) (.str s.text) tg ex el dv bv] 8 1]:=⟨_,rfl⟩
  have C0:Cx w 8 (Rk r bf bt w fv bound st) F D S s.v bX (ey s (.sl true []) (.str s.text) tg ex el dv bv) F D S2:=by
   refine⟨by rw[hS2];exact(fm _ _).push hk _,by rw[hS2];exact(Stp.refl _ _ _ _).push _,?_,?_,?_,(fm _ _).out hk oM,(fm _ _).out hk oM,(fm _ _).out hk oM⟩
   all_goals rw[hS2,bK oM];simp
  have fin:∀{bo s' F' D' U} (lb:List Bz) (tx:Bz) (tg ex:List Ex) (el:List El) (de:List De) (bd:List Sm) (lv yH dv:V),Cx w 8 (Rk r bf bt w fv bo s') F D S s.v bX (ey s lv (.str tx) (.sl false (tg.map Ex.v)) (.sl false (ex.map Ex.v)) yH dv (.sl false (bd.map Sm.v))) F' D' U->Gx 1 S.length w F' D' (lb.map .str) lv U->Gx 2 S.length w F' D' (el.map El.v) yH U->Gx 7 S.length w F' D' (de.map De.v) dv U->
    ae U (.ptr (S.length+2) 0 0 1) (some 8)=some (ey s lv (.str tx) (.sl false (tg.map Ex.v)) (.sl false (ex.map Ex.v)) yH dv (.sl false (bd.map Sm.v)))/\∃U',aA U (.ptr (S.length+1) 0 0 1) 8 (ey s lv (.str tx) (.sl false (tg.map Ex.v)) (.sl false (ex.map Ex.v)) yH dv (.sl false (bd.map Sm.v)))=some U'/\
    ∀e:af,e.get 6=some (.ptr (S.length+1) 0 0 1)->eH [.cell 6 (some 8)] S.length (fun v U=>i7 w (Rk r bf bt w fv bo s') F D S (Sm.mk lb s.kind tx tg ex el de bd).v v U) .ret e U':=by
   intro bo s' F' D' U lb tx tg ex el de bd lv yH dv hC h1 h2 h3;have f1:=h1.oS;have f2:=h2.oS;have f3:=h3.oS;refine⟨by simp[ae,hC.b2,cH],U.set (S.length+1) (.arr [ey s lv (.str tx) (.sl false (tg.map Ex.v)) (.sl false (ex.map Ex.v)) yH dv (.sl false (bd.map Sm.v))] 8 1),by simp[aA,hC.b1,aE,f1.2.1,f2.2.1,f3.2.1],fun e he=>?_⟩;exact qcX (fm bo s') (bJ (aM hC.b1)) he (h1.fK hC.b1 oM _) (h2.fK hC.b1 oM _) (h3.fK hC.b1 oM _) bL bL bL ((fm bo s').set hC.rk _ hC.o1) (hC.st.set _ oM)
  simp[Ph,aC,aZ,aA,ae,qu,aE];rw[<-uc,<-hex,<-hel,<-hdv,<-hbv];rw[<-hS2];obtain⟨A,hA⟩:∃A:Nat->V->Np->Np->St->Prop,∀i gv F' D' U,A i gv F' D' U↔(Cx w 8 (Rk r bf bt w fv bound st) F D S s.v bX (ey s gv (.str s.text) tg ex el dv bv) F' D' U/\Gw 1 S.length w F' D' (((s.labels.take i).map (cN r sc)).map .str) gv U):=⟨_,fun _ _ _ _ _=>Iff.rfl⟩;refine du (tz (A s.labels.length) fun _=>[(0,.ptr w 0 0 1),(2,.sl b ((ag.flat sc).map cz)),(4,.ptr S.length 0 0 1),(6,.ptr (S.length+1) 0 0 1),(7,.ptr (S.length+2) 0 0 1)]) ?_ ?_
  .refine bN (vF s.labels.length A fun i _=>[(8,.int .i64 i),(0,.ptr w 0 0 1),(2,.sl b ((ag.flat sc).map cz)),(4,.ptr S.length 0 0 1),(6,.ptr (S.length+1) 0 0 1),(7,.ptr (S.length+2) 0 0 1)]) s.labels.length _ ?_ ⟨0,_,F,D,by simp,by omega,(hA _ _ _ _ _).2 ⟨C0,Gw.nil _ _ _ _ _ _⟩,rfl⟩ ?_
   .exact aN
   rintro j e U ⟨i,gv,F1,D1,rfl,hi,hI,rfl⟩;obtain⟨hC,hg⟩:=(hA _ _ _ _ _).1 hI;have hn:ae U (.ptr S.length 0 0 1) none=some (.sl false (s.labels.map .str)):=by simp[ae,hC.b0]
   by_cases hlt:i<s.labels.length
   .have hia:=jb hlt false U;have hgv:ae U (.ptr (S.length+2) 0 0 1) none=some gv:=by simp[ae,hC.b2]
    have hfs:fits 1 [V.str (cN r sc s.labels[i])]=true:=rfl;obtain⟨wH,U2,ha,hg2,k2,s2,a5,a6⟩:=hg.pQ (fm bound st) (bytes:=16) (b:=true) (y:=.str (cN r sc s.labels[i])) hC.rk hC.st hfs (by simp;omega);have C2:=hC.app (gv:=gv) k2 s2 a5 fun k ys wr hk'=>hg.uy hk' oM
    have hst:=kM (j:=0) C2.b2 hg2.oS sM sM;simp only[List.take,List.drop,cP,eK]at hst;have C3:=C2.put (fm bound st) (ey s wH (.str s.text) tg ex el dv bv);have hg3:=hg2.fK C2.b2 oM (.arr [ey s wH (.str s.text) tg ex el dv bv] 8 1);have hm:((s.labels.take (i+1)).map (cN r sc)).map V.str=((s.labels.take i).map (cN r sc)).map .str++[.str (cN r sc s.labels[i])]:=by rw[map_take _ _ _ hlt,cy];rfl
    rw[<-hm]at hg3;simp[hn,hlt,hgv,hia,cF];refine iu (HB r bf bt w fv bound st F1 D1 U hC.rk b sc ok.nd oM s.labels[i]) ?_;simp[hfs,ha,hst];simp[cU,dx,dG,hgv];simp[bP i];refine⟨_,?_,_,?_,i+1,wH,F1,D1,rfl,by omega,(hA _ _ _ _ _).2 ⟨C3,hg3⟩,rfl⟩
    .omega
    .exact aN
   .have:i=s.labels.length:=by omega
    subst this;simp[hn];refine⟨gv,F1,D1,hI,?_⟩;exact aN
  rintro e U ⟨gv,F0,D0,hI,hsub⟩;obtain⟨hC,hg⟩:=(hA _ _ _ _ _).1 hI;rw[eR]at hg;show WP prog (.seq _ _) _ e U;rw[vX];obtain⟨M,hM⟩:∃A:V->Np->Np->St->Prop,∀lv F1 D1 U,A lv F1 D1 U↔(s.kind≠7/\s.kind≠8/\Cx w 8 (Rk r bf bt w fv bound (if s.kind=6 then jl r sc s.text st else st)) F D S s.v bX (ey s lv (.str (if s.kind=6 then j0 r sc s.text else s.text)) tg ex el dv bv) F1 D1 U/\Gw 1 S.length w F1 D1 ((s.labels.map (cN r sc)).map .str) lv U):=⟨_,fun _ _ _ _=>Iff.rfl⟩;refine QU (tz M fun _=>[(0,.ptr w 0 0 1),(2,.sl b ((ag.flat sc).map cz)),(4,.ptr S.length 0 0 1),(6,.ptr (S.length+1) 0 0 1),(7,.ptr (S.length+2) 0 0 1)]) ?_ ?_
  .have g0:e.get 0=_:=hsub 0 _ rfl;have g2:e.get 2=_:=hsub 2 _ rfl;have g4:e.get 4=_:=hsub 4 _ rfl;have g6:e.get 6=_:=hsub 6 _ rfl;have g7:e.get 7=_:=hsub 7 _ rfl;have hkd:ae U (.ptr S.length 0 1 1) none=some (.int .i64 s.kind):=by simp[ae,hC.b0]
   have htx:ae U (.ptr S.length 0 2 1) none=some (.str s.text):=by simp[ae,hC.b0]
   have hbd:∀{bo s' y F' D' U},Cx w 8 (Rk r bf bt w fv bo s') F D S s.v bX y F' D' U->ae U (.ptr S.length 0 7 1) none=some (.sl false (s.body.map Sm.v)):=fun hC=>by simp[ae,hC.b0]
   have hdd:∀{bo s' y F' D' U},Cx w 8 (Rk r bf bt w fv bo s') F D S s.v bX y F' D' U->ae U (.ptr S.length 0 6 1) none=some (.sl false (s.decls.map De.v)):=fun hC=>by simp[ae,hC.b0]
   by_cases h7:s.kind=7
   .rw[ai h7,ai h7,ai h7];rw[ai h7]at iK;simp[g4,hkd,h7];obtain⟨B,hB⟩:∃A:Nat->V->Np->Np->St->Prop,∀i hv F' D' U,A i hv F' D' U↔(Cx w 8 (Rk r bf bt w fv bound st) F D S s.v bX (ey s gv (.str s.text) tg ex el dv bv) F' D' U/\Gw 1 S.length w F' D' ((s.labels.map (cN r sc)).map .str) gv U/\Gw 1 S.length w F' D' (((s.decls.take i).flatMap De.names).map .str) hv U/\wq hv gv):=⟨_,fun _ _ _ _ _=>Iff.rfl⟩;refine du (tz (B s.decls.length) fun hv=>[(9,hv),(0,.ptr w 0 0 1),(2,.sl b ((ag.flat sc).map cz)),(4,.ptr S.length 0 0 1),(6,.ptr (S.length+1) 0 0 1),(7,.ptr (S.length+2) 0 0 1)]) ?_ ?_
    .refine bN (vF s.decls.length B fun i hv=>[(10,.int .i64 i),(9,hv),(0,.ptr w 0 0 1),(2,.sl b ((ag.flat sc).map cz)),(4,.ptr S.length 0 0 1),(6,.ptr (S.length+1) 0 0 1),(7,.ptr (S.length+2) 0 0 1)]) s.decls.length _ ?_ ⟨0,_,F0,D0,by simp,by omega,(hB _ _ _ _ _).2 ⟨hC,hg,Gw.nil _ _ _ _ _ _,fun l a b c hh=>V.noConfusion hh⟩,rfl⟩ ?_
     .repeat' first|exact af.fh _|refine af.dV (by simp[g0,g2,g4,g6,g7]) ?_
     rintro j e U ⟨i,hv,F0,D0,rfl,hi,hI,rfl⟩;obtain⟨hC,hg,hh,hdf⟩:=(hB _ _ _ _ _).1 hI;have hn:=hdd hC;by_cases hlt:i<s.decls.length
     .have hia:=wP hlt false U;obtain⟨t1,t2⟩:=qgZ s.decls i hlt;obtain⟨hv',U2,ha,hh2,k2,s2,a5,a6⟩:=hh.A1 (fm bound st) (bytes:=16) (x:=.sl false (s.decls[i].names.map .str)) hC.rk hC.st (mh _ _ _) (qL _) (by rw[bu,bu];omega);have C2:=hC.app (gv:=hv) k2 s2 a5 fun k ys wr hk'=>hh.uy hk' oM
      have hg':=hg.other fun l o ho a b c hv'=>a5 l o ho fun a' b' c' hh=>hdf l a' b' c' hh a b c hv'
      rw[<-cy,<-t1]at hh2;have JR:=hg.lt
      have df2:wq hv' gv:=fun l a b c hh a' b' c' hg=>by
       rcases a6 l a b c hh with h1|h1
       .exact hdf l _ _ _ h1 _ _ _ hg
       .have:=JR l _ _ _ hg;omega
      simp[hn,hlt,hia,ha,bP i];refine⟨_,?_,_,?_,i+1,hv',F0,D0,rfl,by omega,(hB _ _ _ _ _).2 ⟨C2,hg',hh2,df2⟩,rfl⟩
      .omega
      .exact aN
     .have:i=s.decls.length:=by omega
      subst this;simp[hn];refine⟨hv,F0,D0,hI,?_⟩;exact aN
    clear hsub g0 g2 g4 g6 g7 hkd htx;rintro e U1 ⟨hv,F1,D1,hI,hsub⟩;obtain⟨C1,hg1,hh1,hdf⟩:=(hB _ _ _ _ _).1 hI;rw[eR]at hh1;have g0:e.get 0=_:=hsub 0 _ rfl;have g2:e.get 2=_:=hsub 2 _ rfl;have g4:e.get 4=_:=hsub 4 _ rfl;have g6:e.get 6=_:=hsub 6 _ rfl;have g7:e.get 7=_:=hsub 7 _ rfl;have g9:e.get 9=_:=hsub 9 _ rfl;simp[g0,g2,g4,g9,hbd C1];refine aU (Zu s.body oM false w _ (fm bound st) F1 D1 U1 C1.rk) ?_;rintro v U2 ⟨rfl,F2,D2,k2,s2⟩;have C2:=C1.call k2 s2;have hg2:=hg1.step s2;have hh2:=hh1.step s2;have hnl:=zp s.decls;have hll:=K6 s.body;obtain⟨hv',U3,ha,hh3,k3,s3,a5,a6⟩:=hh2.A1 (fm bound st) (bytes:=16) (x:=.sl false ((bq s.body).map .str)) C2.rk C2.st (mh _ _ _) (qL _) (by rw[bu,bu];omega);have C3:=C2.app (gv:=hv) k3 s3 a5 fun k ys wr hk'=>hh2.uy hk' oM
    have hg3:=hg2.other fun l o ho a b c hv'=>a5 l o ho fun a' b' c' hh=>hdf l a' b' c' hh a b c hv'
    rw[<-cy]at hh3;obtain⟨names,wO⟩:∃names,names=bM s.decls s.body:=⟨_,rfl⟩;have hn':s.decls.flatMap De.names++bq s.body=names:=by rw[wO];rfl
    rw[hn']at hh3;rw[<-wO]at iK |-;have qno:names.length<=8000:=by rw[<-hn',cJ];omega
    simp[ha];refine aU (M3 r bf bt w fv bound st F2 D2 U3 C3.rk b sc names hv' hh3.nr oM oM) ?_;rintro v U4 ⟨rfl,F4,D4,k4,s4⟩;have C4:=C3.call k4 s4;have hg4:=hg3.step s4;obtain⟨inner,BR⟩:∃inner,inner=ah names bound.length::sc:=⟨_,rfl⟩;have Uc:(bound++bY names).length=bound.length+(ah names bound.length).length:=by rw[cJ,CW _ bound.length]
    have qh:oG (bound++bY names) st inner (De.aJ s.decls+Sm.aJ s.body) (aY (s.decls.map Pa.de)+aY (s.body.map Pa.st)):=by
     rw[BR];exact oG.enter (nb:=(ah names 0).length+(De.aJ s.decls+Sm.aJ s.body)) ⟨ok.nd,hof,by omega,by omega⟩ names bL
    rw[<-BR];have hfi:=qh.fl;have hbi:=qh.bo;have Uy:=kM (j:=6) (v:=.sl true []) C4.b2 ⟨rfl,rfl,rfl⟩ sM sM;simp only[List.take,List.drop,cP,eK]at Uy;have C5:=C4.put (fm _ _) (ey s gv (.str s.text) tg ex el (.sl true []) bv);have hg5:=hg4.fK C4.b2 oM (.arr [ey s gv (.str s.text) tg ex el (.sl true []) bv] 8 1);simp[g7,Uy];obtain⟨E,hE⟩:∃A:Nat->V->Np->Np->St->Prop,∀i xv F5 D5 U,A i xv F5 D5 U↔(Cx w 8 (Rk r bf bt w fv (bound++bY names++De.bS (s.decls.take i)) (De.aP r inner sc (bound++bY names).length st (s.decls.take i))) F D S s.v bX (ey s gv (.str s.text) tg ex el xv bv) F5 D5 U/\Gw 1 S.length w F5 D5 ((s.labels.map (cN r sc)).map .str) gv U/\Gw 7 S.length w F5 D5 ((De.bk r inner sc (bound++bY names).length (s.decls.take i)).map De.v) xv U):=⟨_,fun _ _ _ _ _=>Iff.rfl⟩;refine du (tz (E s.decls.length) fun _=>[(11,.sl false ((ag.flat inner).map cz)),(0,.ptr w 0 0 1),(4,.ptr S.length 0 0 1),(6,.ptr (S.length+1) 0 0 1),(7,.ptr (S.length+2) 0 0 1)]) ?_ ?_
    .refine bN (vF s.decls.length E fun i _=>[(12,.int .i64 i),(11,.sl false ((ag.flat inner).map cz)),(0,.ptr w 0 0 1),(2,.sl b ((ag.flat sc).map cz)),(4,.ptr S.length 0 0 1),(6,.ptr (S.length+1) 0 0 1),(7,.ptr (S.length+2) 0 0 1)]) s.decls.length _ ?_ ⟨0,_,F4,D4,by simp,by omega,(hE _ _ _ _ _).2 ⟨by simpa[De.bS,De.aP]using C5,hg5,Gw.nil _ _ _ _ _ _⟩,rfl⟩ ?_
     .repeat' first|exact af.fh _|refine af.dV (by simp[g0,g2,g4,g6,g7]) ?_
     rintro j e U ⟨i,xv,F5,D5,rfl,hi,hI,rfl⟩;obtain⟨hC,hg,hx⟩:=(hE _ _ _ _ _).1 hI;have hn:=hdd hC;by_cases hlt:i<s.decls.length
     .have hia:=wP hlt false U;obtain⟨n1,n2⟩:=qg4 s.decls i hlt;have hst:=zQ Pa.de s.decls i hlt;have hrl:=De.iq r (s.decls.take i) inner sc (bound++bY names).length st;have qeI:(bound++bY names++De.bS (s.decls.take i)).length=(bound++bY names).length+De.aJ (s.decls.take i):=by rw[cJ,De.ny]
      have ht:s.decls.take (i+1)=s.decls.take i++[s.decls[i]]:=by rw[cY,bI hlt];rfl
      have q:=qla r ho bf bt w fv s.decls[i] (Il _ (cI hlt)) oM _ _ F5 D5 U b false sc inner hC.rk ⟨qh.nd,by omega,by omega,by have:=qh.fr;omega⟩ ok.nd oM;rw[qeI]at q;obtain⟨d',hd'⟩:∃d',d'=De.rw r inner sc ((bound++bY names).length+De.aJ (s.decls.take i)) s.decls[i]:=⟨_,rfl⟩;rw[<-hd']at q;have hxv:ae U (.ptr (S.length+2) 0 6 1) none=some xv:=by simp[ae,hC.b2]
      simp[hn,hlt,hia,hxv];obtain⟨F',D',U',r1,r2⟩:=hC.rk.real (bound++bY names++De.bS (s.decls.take i)++s.decls[i].bn) (De.rs r inner sc ((bound++bY names).length+De.aJ (s.decls.take i)) (De.aP r inner sc (bound++bY names).length st (s.decls.take i)) s.decls[i]);refine qw q ⟨_,U',rfl,F',D',r1,r2⟩ ?_;rintro v U2 ⟨rfl,F6,D6,k6,s6⟩;have C6:=hC.call k6 s6;have wM:=hg.step s6;have hx6:=hx.step s6;obtain⟨nf,U3,ha,hx7,k7,s7,a5,a6⟩:=hx6.pQ (fm _ _) (bytes:=120) (b:=true) C6.rk C6.st (De.gn d') (by rw[bu,YJ,km];omega);have C7:=C6.app (gv:=xv) k7 s7 a5 fun k ys wr hk'=>hx6.uy hk' oM
      have rW:=wM.other fun l o ho a b c hv'=>a5 l o ho fun a' b' c' hh=>(Gx.ne (.inr hx6) (.inr wM) oM) l a' b' c' a b c hh hv'
      have ub:=kM (j:=6) C7.b2 hx7.oS sM sM;simp only[List.take,List.drop,cP,eK]at ub;have C8:=C7.put (fm _ _) (ey s gv (.str s.text) tg ex el nf bv);have yX:=rW.fK C7.b2 oM (.arr [ey s gv (.str s.text) tg ex el nf bv] 8 1);have rZ:=hx7.fK C7.b2 oM (.arr [ey s gv (.str s.text) tg ex el nf bv] 8 1)
      have hn1:(De.bk r inner sc (bound++bY names).length (s.decls.take i)).map De.v++[d'.v]=(De.bk r inner sc (bound++bY names).length (s.decls.take (i+1))).map De.v:=by
       rw[ht,De.Dw,cy,hd'];rfl
      have hn2:De.rs r inner sc ((bound++bY names).length+De.aJ (s.decls.take i)) (De.aP r inner sc (bound++bY names).length st (s.decls.take i)) s.decls[i]=De.aP r inner sc (bound++bY names).length st (s.decls.take (i+1)):=by
       rw[ht,De.ri];rfl
      have hn3:bound++bY names++De.bS (s.decls.take i)++s.decls[i].bn=bound++bY names++De.bS (s.decls.take (i+1)):=by
       rw[ht,De.Ba,cO (bound++bY names)];simp[De.bS]
      rw[hn1]at rZ;rw[hn2,hn3]at C8;have KF:ae U2 (.ptr (S.length+2) 0 6 1) none=some xv:=by simp[ae,C6.b2]
      simp[De.gn,ha,ub];simp[cU,dx,dG,hxv,KF];simp[bP i];refine⟨_,?_,_,?_,i+1,nf,F6,D6,rfl,by omega,(hE _ _ _ _ _).2 ⟨C8,yX,rZ⟩,rfl⟩
      .omega
      .exact aN
     .have:i=s.decls.length:=by omega
      subst this;simp[hn];refine⟨xv,F5,D5,hI,?_⟩;exact aN
    clear hsub g0 g2 g4 g6 g7 g9;rintro e U5 ⟨xv,F5,D5,hI,hsub⟩;obtain⟨C5,hg5,hx5⟩:=(hE _ _ _ _ _).1 hI;rw[eR]at C5 hx5;have g0:e.get 0=_:=hsub 0 _ rfl;have g4:e.get 4=_:=hsub 4 _ rfl;have g6:e.get 6=_:=hsub 6 _ rfl;have g7:e.get 7=_:=hsub 7 _ rfl;have g11:e.get 11=_:=hsub 11 _ rfl;have hrl:=De.iq r s.decls inner sc (bound++bY names).length st;have qeH:(bound++bY names++De.bS s.decls).length=(bound++bY names).length+De.aJ s.decls:=by rw[cJ,De.ny]
    have q:=Zt r bf bt w fv s.body vD hbl _ _ F5 D5 U5 false false inner C5.rk ⟨qh.nd,by omega,by omega,by have:=qh.fr;omega⟩;rw[qeH,Uc]at q;simp[g0,g4,g11,hbd C5];refine aU q ?_;rintro v U6 ⟨rfl,F6,D6,k6,s6⟩;have C6:=C5.call k6 s6;have hst:=kM (j:=7) (v:=.sl false ((Sm.bk r inner (bound.length+(ah names bound.length).length+De.aJ s.decls) s.body).map Sm.v)) C6.b2 ⟨rfl,rfl,rfl⟩ sM sM;simp only[List.take,List.drop,cP,eK]at hst;have C7:=C6.put (fm _ _) (ey s gv (.str s.text) tg ex el xv (.sl false ((Sm.bk r inner (bound.length+(ah names bound.length).length+De.aJ s.decls) s.body).map Sm.v)));have rW:=(hg5.step s6).fK C6.b2 oM (.arr [ey s gv (.str s.text) tg ex el xv (.sl false ((Sm.bk r inner (bound.length+(ah names bound.length).length+De.aJ s.decls) s.body).map Sm.v))] 8 1);have hx7:=(hx5.step s6).fK C6.b2 oM (.arr [ey s gv (.str s.text) tg ex el xv (.sl false ((Sm.bk r inner (bound.length+(ah names bound.length).length+De.aJ s.decls) s.body).map Sm.v))] 8 1);subst uc hex hel;obtain⟨p1,U9,p2,p3⟩:=fin (s.labels.map (cN r sc)) s.text s.targets s.ak s.elems _ _ gv _ xv C7 (.inr rW) (.inl ⟨false,rfl⟩) (.inr hx7);have e1:bound++bY names++De.bS s.decls++Sm.bS s.body=bound++(bY names++De.bS s.decls++Sm.bS s.body):=by simp only[cO]
    rw[e1]at p3;simp[g6,g7,hst,p1,p2];rw[h7,Uc]at p3;simp only[cO]at p3 |-;exact p3 _ g6
   rw[aj h7,aj h7,aj h7];rw[aj h7]at iK;by_cases h8:s.kind=8
   .rw[ai h8,ai h8,ai h8];rw[ai h8]at iK;simp[g0,g2,g4,hkd,h8,hbd hC];refine aU (MX r bf bt w fv s.body vD oM bound st F0 D0 U false b sc hC.rk ⟨ok.nd,hof,iK,by omega⟩) ?_;rintro v U1 ⟨rfl,F1,D1,k1,s1⟩;have C1:=hC.call k1 s1;obtain⟨bd,qeG⟩:∃bd,bd=Sm.bk r (ah (bq s.body) bound.length::sc) (bound.length+(ah (bq s.body) bound.length).length) s.body:=⟨_,rfl⟩;rw[<-qeG];have hst:=kM (j:=7) (v:=.sl false (bd.map Sm.v)) C1.b2 ⟨rfl,rfl,rfl⟩ sM sM;simp only[List.take,List.drop,cP,eK]at hst;have C2:=C1.put (fm _ _) (ey s gv (.str s.text) tg ex el dv (.sl false (bd.map Sm.v)));have hg2:=(hg.step s1).fK C1.b2 oM (.arr [ey s gv (.str s.text) tg ex el dv (.sl false (bd.map Sm.v))] 8 1);subst uc hex hel hdv;obtain⟨p1,U9,p2,p3⟩:=fin (s.labels.map (cN r sc)) s.text s.targets s.ak s.elems s.decls bd gv _ _ C2 (.inr hg2) (.inl ⟨false,rfl⟩) (.inl ⟨false,rfl⟩);simp[g6,g7,hst,p1,p2]
    first|exact p3 _ g6|(rw[h8]at p3;exact p3 _ g6)
   by_cases h6:s.kind=6
   .simp[g0,g2,g4,hkd,h6,htx];refine aU (Zq r ho bf bt w fv bound st F0 D0 U hC.rk b sc ok.nd oM s.text oM) ?_;rintro v U1 ⟨rfl,F1,D1,k1,s1⟩;have C1:=hC.call k1 s1;have hst:=kM (j:=2) (v:=.str (j0 r sc s.text)) C1.b2 ⟨rfl,rfl,rfl⟩ sM sM;simp only[List.take,List.drop,cP,eK]at hst;have C2:=C1.put (fm _ _) (ey s gv (.str (j0 r sc s.text)) tg ex el dv bv);have hg2:=(hg.step s1).fK C1.b2 oM (.arr [ey s gv (.str (j0 r sc s.text)) tg ex el dv bv] 8 1);simp[g7,hst];refine⟨gv,F1,D1,(hM _ _ _ _).2 ⟨h7,h8,by rw[ai h6,ai h6];exact C2,hg2⟩,?_⟩
    repeat' first|exact af.fh _|refine af.dV (by simp[g0,g2,g4,g6,g7]) ?_
   .simp[g4,hkd,h7,h8,h6];refine⟨gv,F0,D0,(hM _ _ _ _).2 ⟨h7,h8,by rw[aj h6,aj h6];exact hC,hg⟩,?_⟩
    repeat' first|exact af.fh _|refine af.dV (by simp[g0,g2,g4,g6,g7]) ?_
  clear hsub hC hg hI;rintro e U ⟨gv,F1,D1,hI,hsub⟩;obtain⟨h7,h8,C1,hg1⟩:=(hM _ _ _ _).1 hI;rw[aj h7,aj h8]at iK;rw[aj h7,aj h7,aj h7,aj h8,aj h8,aj h8];obtain⟨st1,hst1⟩:∃st1,st1=if s.kind=6 then jl r sc s.text st else st:=⟨_,rfl⟩
  have Ux:st1.free.length<=st.free.length+1:=by
   rw[hst1];split
   .exact Hk r sc s.text st
   .omega
  obtain⟨tx,htx⟩:∃tx,tx=if s.kind=6 then j0 r sc s.text else s.text:=⟨_,rfl⟩
  rw[<-hst1]at C1 |-;rw[<-htx]at C1 |-;have g0:e.get 0=_:=hsub 0 _ rfl;have g2:e.get 2=_:=hsub 2 _ rfl;have g4:e.get 4=_:=hsub 4 _ rfl;have g6:e.get 6=_:=hsub 6 _ rfl;have g7:e.get 7=_:=hsub 7 _ rfl;have ldt:ae U (.ptr S.length 0 3 1) none=some (.sl false (s.targets.map Ex.v)):=by simp[ae,C1.b0]
  simp[g0,g2,g4,ldt];refine aU (qlb r ho bf bt w fv s.targets oM bound st1 F1 D1 U false b sc C1.rk ok.nd oM oM) ?_;rintro v U2 ⟨rfl,F2,D2,k2,s2⟩;have C2:=C1.call k2 s2;obtain⟨kN,KD⟩:∃x,x=V.sl false ((Ex.bk r sc s.targets).map Ex.v):=⟨_,rfl⟩;obtain⟨st2,hst2⟩:∃st2,st2=qq r sc st1 s.targets:=⟨_,rfl⟩;have qfj:=Z5 r sc st1 s.targets;rw[<-hst2]at C2 qfj |-;rw[<-KD];have KB:=kM (j:=3) (v:=kN) C2.b2 (by rw[KD];exact⟨rfl,rfl,rfl⟩) sM sM;simp only[List.take,List.drop,cP,eK]at KB;have C3:=C2.put (fm _ _) (ey s gv (.str tx) kN ex el dv bv);have hg3:=(hg1.step s2).fK C2.b2 oM (.arr [ey s gv (.str tx) kN ex el dv bv] 8 1);obtain⟨U3,mN⟩:∃U3,U3=U2.set (S.length+2) (.arr [ey s gv (.str tx) kN ex el dv bv] 8 1):=⟨_,rfl⟩;rw[<-mN]at KB C3 hg3;have UA:=kM (j:=5) (v:=.sl true []) C3.b2 ⟨rfl,rfl,rfl⟩ sM sM;simp only[List.take,List.drop,cP,eK]at UA;have C4:=C3.put (fm _ _) (ey s gv (.str tx) kN ex (.sl true []) dv bv);have hg4:=hg3.fK C3.b2 oM (.arr [ey s gv (.str tx) kN ex (.sl true []) dv bv] 8 1);simp[g7,KB,UA];obtain⟨E,hE⟩:∃A:Nat->V->Np->Np->St->Prop,∀i xv F5 D5 U,A i xv F5 D5 U↔(Cx w 8 (Rk r bf bt w fv bound (El.aP r sc st2 (s.elems.take i))) F D S s.v bX (ey s gv (.str tx) kN ex xv dv bv) F5 D5 U/\Gw 1 S.length w F5 D5 ((s.labels.map (cN r sc)).map .str) gv U/\Gw 2 S.length w F5 D5 (((s.elems.take i).map (El.rw r sc)).map El.v) xv U):=⟨_,fun _ _ _ _ _=>Iff.rfl⟩;refine du (tz (E s.elems.length) fun _=>[(0,.ptr w 0 0 1),(2,.sl b ((ag.flat sc).map cz)),(4,.ptr S.length 0 0 1),(6,.ptr (S.length+1) 0 0 1),(7,.ptr (S.length+2) 0 0 1)]) ?_ ?_
  .refine bN (vF s.elems.length E fun i _=>[(13,.int .i64 i),(0,.ptr w 0 0 1),(2,.sl b ((ag.flat sc).map cz)),(4,.ptr S.length 0 0 1),(6,.ptr (S.length+1) 0 0 1),(7,.ptr (S.length+2) 0 0 1)]) s.elems.length _ ?_ ⟨0,_,F2,D2,by simp,by omega,(hE _ _ _ _ _).2 ⟨C4,hg4,Gw.nil _ _ _ _ _ _⟩,rfl⟩ ?_
   .repeat' first|exact af.fh _|refine af.dV (by simp[g0,g2,g4,g6,g7]) ?_
   rintro j e U ⟨i,xv,F5,D5,rfl,hi,hI,rfl⟩;obtain⟨hC,hg,hx⟩:=(hE _ _ _ _ _).1 hI;have hn:ae U (.ptr S.length 0 5 1) none=some (.sl false (s.elems.map El.v)):=by simp[ae,hC.b0]
   by_cases hlt:i<s.elems.length
   .have hia:=fun U=>BZ hlt false U
    obtain⟨y,hy⟩:∃y,y=s.elems[i]:=⟨_,rfl⟩;rw[<-hy]at hia;have hst:=zQ Pa.el s.elems i hlt;rw[<-hy]at hst;have hrl:=El.iq r sc (s.elems.take i) st2;have hys:(Pa.el y).size=1+aY (y.ak.map Pa.ex):=by rw[Pa.size_eq];rfl
    have ht:s.elems.take (i+1)=s.elems.take i++[y]:=by rw[cY,bI hlt,hy];rfl
    have q:=DK r ho bf bt w fv y.ak oM bound _ F5 D5 U false b sc hC.rk ok.nd oM oM;have hxv:ae U (.ptr (S.length+2) 0 5 1) none=some xv:=by simp[ae,hC.b2]
    simp[hn,hlt,hia,hxv];obtain⟨F',D',U',r1,r2⟩:=hC.rk.real bound (Ex.aP r sc (El.aP r sc st2 (s.elems.take i)) y.ak);refine qw q ⟨_,U',rfl,F',D',r1,r2⟩ ?_;rintro v U2 ⟨rfl,F6,D6,k6,s6⟩;have C6:=hC.call k6 s6;have wM:=hg.step s6;have hx6:=hx.step s6;obtain⟨y',hy'⟩:∃y',y'=El.rw r sc y:=⟨_,rfl⟩;obtain⟨nf,U3,ha,hx7,k7,s7,a5,a6⟩:=hx6.pQ (fm _ _) (bytes:=32) (b:=true) C6.rk C6.st (El.gn y') (by simp;omega);have C7:=C6.app (gv:=xv) k7 s7 a5 fun k ys wr hk'=>hx6.uy hk' oM
    have rW:=wM.other fun l o ho a b c hv'=>a5 l o ho fun a' b' c' hh=>(Gx.ne (.inr hx6) (.inr wM) oM) l a' b' c' a b c hh hv'
    have ub:=kM (j:=5) C7.b2 hx7.oS sM sM;simp only[List.take,List.drop,cP,eK]at ub;have C8:=C7.put (fm _ _) (ey s gv (.str tx) kN ex nf dv bv);have yX:=rW.fK C7.b2 oM (.arr [ey s gv (.str tx) kN ex nf dv bv] 8 1);have rZ:=hx7.fK C7.b2 oM (.arr [ey s gv (.str tx) kN ex nf dv bv] 8 1)
    have hn1:((s.elems.take i).map (El.rw r sc)).map El.v++[y'.v]=((s.elems.take (i+1)).map (El.rw r sc)).map El.v:=by
     rw[ht,cy,cy,hy'];rfl
    have hn2:Ex.aP r sc (El.aP r sc st2 (s.elems.take i)) y.ak=El.aP r sc st2 (s.elems.take (i+1)):=by
     rw[ht,El.ri];rfl
    rw[hn1]at rZ;rw[hn2]at C8
    have hbu:bj (.agg [.int .i64 0,.sl true []]) [(0,1,.int .i64 y.kind),(1,1,.sl false ((Ex.bk r sc y.ak).map Ex.v))]=some y'.v:=by
     rw[hy'];simp[bj,aE,El.v,El.rw]
    have KF:ae U2 (.ptr (S.length+2) 0 5 1) none=some xv:=by simp[ae,C6.b2]
    have qeY:ae U2 (.ptr S.length 0 5 1) none=some (.sl false (s.elems.map El.v)):=by simp[ae,C6.b0]
    simp[bz,hbu,El.gn,ha,ub];simp[cU,dx,dG,hxv,KF,hn,qeY,hia];simp[bP i];refine⟨_,?_,_,?_,i+1,nf,F6,D6,rfl,by omega,(hE _ _ _ _ _).2 ⟨C8,yX,rZ⟩,rfl⟩
    .omega
    .exact aN
   .have:i=s.elems.length:=by omega
    subst this;simp[hn];refine⟨xv,F5,D5,hI,?_⟩;exact aN
  clear hsub g0 g2 g4 g6 g7;rintro e U5 ⟨xv,F5,D5,hI,hsub⟩;obtain⟨C5,hg5,hx5⟩:=(hE _ _ _ _ _).1 hI;rw[eR]at C5 hx5;have g0:e.get 0=_:=hsub 0 _ rfl;have g2:e.get 2=_:=hsub 2 _ rfl;have g4:e.get 4=_:=hsub 4 _ rfl;have g6:e.get 6=_:=hsub 6 _ rfl;have g7:e.get 7=_:=hsub 7 _ rfl;have hrl:=El.iq r sc s.elems st2;have ldx:ae U5 (.ptr S.length 0 4 1) none=some (.sl false (s.ak.map Ex.v)):=by simp[ae,C5.b0]
  simp[g0,g2,g4,ldx];refine aU (DK r ho bf bt w fv s.ak oM bound _ F5 D5 U5 false b sc C5.rk ok.nd oM oM) ?_;rintro v U6 ⟨rfl,F6,D6,k6,s6⟩;have C6:=C5.call k6 s6;have qnq:=Ex.iq r sc s.ak (El.aP r sc st2 s.elems);obtain⟨tU,J8⟩:∃x,x=V.sl false ((Ex.bk r sc s.ak).map Ex.v):=⟨_,rfl⟩;rw[<-J8];have ub:=kM (j:=4) (v:=tU) C6.b2 (by rw[J8];exact⟨rfl,rfl,rfl⟩) sM sM;simp only[List.take,List.drop,cP,eK]at ub;have C7:=C6.put (fm _ _) (ey s gv (.str tx) kN tU xv dv bv);have rW:=(hg5.step s6).fK C6.b2 oM (.arr [ey s gv (.str tx) kN tU xv dv bv] 8 1);have hx7:=(hx5.step s6).fK C6.b2 oM (.arr [ey s gv (.str tx) kN tU xv dv bv] 8 1);have K9:ae (U6.set (S.length+2) (.arr [ey s gv (.str tx) kN tU xv dv bv] 8 1)) (.ptr S.length 0 7 1) none=some (.sl false (s.body.map Sm.v)):=by simp only[ae,C7.b0];simp
  simp[g0,g2,g4,g7,ub,K9];refine aU (ZE r bf bt w fv s.body vD oM bound _ F6 D6 _ false b sc C7.rk ⟨ok.nd,hof,iK,by omega⟩) ?_;rintro v U8 ⟨rfl,F8,D8,k8,s8⟩;have C8:=C7.call k8 s8;have hst:=kM (j:=7) (v:=.sl false ((Sm.fY r sc bound.length s.body).map Sm.v)) C8.b2 ⟨rfl,rfl,rfl⟩ sM sM;simp only[List.take,List.drop,cP,eK]at hst;have C9:=C8.put (fm _ _) (ey s gv (.str tx) kN tU xv dv (.sl false ((Sm.fY r sc bound.length s.body).map Sm.v)));have BQ:=(rW.step s8).fK C8.b2 oM (.arr [ey s gv (.str tx) kN tU xv dv (.sl false ((Sm.fY r sc bound.length s.body).map Sm.v))] 8 1);have KE:=(hx7.step s8).fK C8.b2 oM (.arr [ey s gv (.str tx) kN tU xv dv (.sl false ((Sm.fY r sc bound.length s.body).map Sm.v))] 8 1);subst KD J8 hdv;obtain⟨p1,U9,p2,p3⟩:=fin (s.labels.map (cN r sc)) tx (Ex.bk r sc s.targets) (Ex.bk r sc s.ak) (s.elems.map (El.rw r sc)) s.decls _ gv xv _ C9 (.inr BQ) (.inr KE) (.inl ⟨false,rfl⟩);simp[g6,g7,hst,p1,p2];exact p3 _ g6
def Na(r:Rp)(ho:pL r)(bf bt:Bool)(w:Nat)(fv:V)(s:Sm)(hsz:(Pa.st s).size<=4000)(st:bp)(F D:Np)(S:St)(hk:Rk r bf bt w fv [] st F D S)(hn:Sm.aX [s]<=50000)(hfr:st.free.length+(Pa.st s).size<=1000000):
  au prog 67 [.ptr w 0 0 1,s.v] S (fun v U=>i7 w (Rk r bf bt w fv (bY s.labels++s.bn) (s.rs r [ah s.labels 0] (ah s.labels 0).length st)) F D S (s.ti r).v v U):=by
 refine au.ib Ql ?_;obtain⟨S1,hS1⟩:∃S1:St,S1=S++[.arr [s.v] 8 1,.arr [bX] 8 1]:=⟨_,rfl⟩;have b0:S1[S.length]?=some (.arr [s.v] 8 1):=by rw[hS1,bK oM];simp
 have b1:S1[S.length+1]?=some (.arr [bX] 8 1):=by rw[hS1,bK oM];simp
 have fm:=fun bo s=>Rk.jV r bf bt w fv bo s
 have k1:Rk r bf bt w fv [] st F D S1:=by rw[hS1];exact(fm _ _).push hk _
 have s1:Stp w F D S F D S1:=by rw[hS1];exact(Stp.refl _ _ _ _).push _
 have o1:er w F D (S.length+1):=(fm _ _).out hk oM;have hlab:bq [s]=s.labels:=by simp[bq]
 have q:=MX r bf bt w fv [s] (fun y hy=>by simp at hy;subst hy;exact M6 r ho bf bt w fv 4000 y hsz bL) (by simpa using hsz) [] st F D S1 true true [] k1 ⟨fun _ h=>(by cases h),eL _,by rw[hlab];simpa[Sm.aX,Sm.aJ]using hn,by simpa using hfr⟩;rw[hlab]at q;simp only[b9,jj,Sm.bS,Sm.aP,Sm.bk,kR,eK,kj,iQ,ag.flat]at q;have CC:ae S1 (.ptr S.length 0 0 1) (some 8)=some s.v:=by simp[ae,b0]
 simp[Ql,aC];rw[<-hS1];simp[CC,Sm.gn];refine aU q ?_;rintro v U ⟨rfl,F1,D1,k2,s2⟩;have c1:=s2.at o1 b1;have p1:=o1.next (aM b1) s2;have hia:eJ U 8 (.sl false [(s.rw r [ah s.labels 0] (ah s.labels 0).length).v]) 0=some (.bG (s.rw r [ah s.labels 0] (ah s.labels 0).length).v 0):=by simp[eJ]
 obtain⟨y,hy⟩:∃y,y=s.rw r [ah s.labels 0] (ah s.labels 0).length:=⟨_,rfl⟩;rw[<-hy]at hia |-;have hst:aA U (.ptr (S.length+1) 0 0 1) 8 y.v=some (U.set (S.length+1) (.arr [y.v] 8 1)):=by simp[aA,c1,aE]
 simp[hia,hst];have hz:(U.set (S.length+1) (.arr [y.v] 8 1))[S.length+1]?=some (.arr [y.v] 8 1):=bJ (aM c1);exact aS (vs:=[y.v]) (by simp[dm,ae,hz]) ⟨by simp only[aK];rw[hy];rfl,F1,D1,(fm _ _).set k2 _ p1,(s1.trans s2).set _ oM⟩
def r0:Rp:=⟨[],[],[]⟩
def Yl:pL r0:=⟨cq _,eL _⟩
def eT:bp:=⟨[],false,false⟩
abbrev tj(gv:V):Ob:=.arr [.agg [.sl true [],.sl true [],gv,.sl true [],.sl true [],.bool false,.bool false]] 7 1
def Rk.start{w:Nat}{S:St}{gv:V}{fresh:List Bz}{D:Np}(h:S[w]?=some (tj gv))(hg:Gs w D fresh gv S)(hD:∀l,D l->l<S.length)(hw:¬D w):Rk ⟨fresh,[],[]⟩ true true w gv [] eT (fun _=>False) D S:=by
 refine⟨⟨.sl true [],.sl true [],?_,.inl ⟨rfl,rfl⟩,.inl ⟨rfl,rfl⟩,fun l a b c hh=>by cases hh⟩,?_,?_,id,hw,fun l hl=>hl.elim,aM h⟩
 .unfold dK eT;unfold tj at h;exact h
 .rcases hg with ⟨h1,h2⟩|⟨l,wr,h1,h2,h3,h4,h5⟩
  .exact .inl ⟨true,by rw[h1,h2];rfl⟩
  .exact .inr ⟨l,wr,h1,h3,h4,h5⟩
 .rintro l (hl|hl)
  .exact hl.elim
  .exact hD l hl
section
variable {f:Nat->Bz} {nm:Bz->Bool} (hf:∀k,nm (f k)=false) (r:Rp) (z:Bz)
include hf
theorem MG(sc:ag)(t:Bz)(st:bp)(ht:nm t=true):z∈(jx r sc t st).free↔z∈st.free\/z∈[dt f sc t].filter nm:=by
 unfold jx dt
 cases sc.at t with
 |none=>simp[ht]
 |some k=>simp[hf]
omit hf in
theorem V0{a b c:Prop}:(a\/b)\/c↔a\/c\/b:=⟨by rintro((h|h)|h)<;>simp[h],by rintro(h|h|h)<;>simp[h]⟩
mutual
theorem Ex.xE(sc:ag):∀(x:Ex) (st:bp),(Pa.ex x).valid nm=true->(z∈(Ex.rs r sc st x).free↔z∈st.free\/z∈(Ex.eo (x.w f sc)).filter nm)
 |.mk k o n m e t a,st,v=>by
  have va:=Ex.xX v;simp only[Ex.args]at va;have h1:=(Pa.eQ.1 v).1;rw[Ex.rs,Ex.w,Ex.eo,k9,cC];by_cases h6:k=6
  .subst h6;have hn:Ex.named 6=true:=rfl;simp[Pa.aQ,Ex.aQ]at h1;obtain⟨⟨⟨⟨_,rfl⟩,rfl⟩,rfl⟩,rfl,rfl⟩:=h1;rw[ai rfl,MG hf r z sc t st (Ex.vm v hn),hn,ai rfl,ai rfl];simp[Ex.wl,Ex.cf]
  .rw[aj h6,Ex.lN sc a _ va];by_cases gP:k=7\/k=8
   .have hn:Ex.named k=true:=by unfold Ex.named;rcases gP with rfl|rfl<;>rfl
    have h2:(jl r sc t st).free=(jx r sc t st).free:=rfl;rw[ai gP,hn,ai rfl,ai rfl,h2,MG hf r z sc t st (Ex.vm v hn),V0]
   .have hn:Ex.named k=false:=by unfold Ex.named;simp;omega
    rw[aj gP,hn];simp
theorem Ex.lN(sc:ag):∀(l:List Ex) (st:bp),(∀x,x∈l->(Pa.ex x).valid nm=true)->(z∈(Ex.aP r sc st l).free↔z∈st.free\/z∈(Ex.cf (Ex.wl f sc l)).filter nm)
 |[],st,_=>by simp[Ex.aP,Ex.wl,Ex.cf]
 |x::l,st,v=>by
  rw[Ex.aP,Ex.wl,Ex.cf,Ex.lN sc l _ fun y hy=>v y (by simp[hy]),Ex.xE sc x st (v x sM),k9,cC,or_assoc]
end
theorem El.lN(sc:ag):∀(l:List El) (st:bp),(∀x,x∈l->(Pa.el x).valid nm=true)->(z∈(El.aP r sc st l).free↔z∈st.free\/z∈(El.cf (l.map (El.w f sc))).filter nm)
 |[],st,_=>by simp[El.aP,El.cf]
 |x::l,st,v=>by
  have h1:=Ex.lN hf r z sc x.ak st (fun y hy=>(Pa.eQ.1 (v x sM)).2 _ (by simp only[Pa.kids];exact jO hy));have h2:=El.lN sc l (Ex.aP r sc st x.ak) fun y hy=>v y (by simp[hy])
  show z∈(El.aP r sc (Ex.aP r sc st x.ak) l).free↔_;rw[h2,h1,b9,El.cf,k9,cC,or_assoc];unfold El.w;rw[<-Ex.jM]
mutual
theorem Sm.xE:∀(s:Sm) (sc:ag) (n:Nat) (st:bp),(Pa.st s).valid nm=true->(z∈(Sm.rs r sc n st s).free↔z∈st.free\/z∈(s.w f sc n).eo.filter nm)
 |.mk l k t g e el d b,sc,n,st,v=>by
  obtain⟨v7,v8,v9⟩:=Sm.u9 v;have vd:=Sm.rx v;have vb:=Sm.jo v;have vg:=Sm.Aa v;have ve:=Sm.kO v;have vl:=Sm.zZ v;have vt:=Sm.vm v;simp only[Sm.decls,Sm.body,Sm.targets,Sm.ak,Sm.elems,Sm.kind,Sm.text]at vd vb vg ve vl vt;rw[Sm.rs,Sm.w];by_cases h7:k=7
  .obtain⟨rfl,rfl,rfl⟩:=v7 h7;rw[ai h7,ai h7,Sm.eo,ai h7,k9,cC,Sm.lN b _ _ _ vb,De.lN d _ _ _ _ vd,or_assoc]
  .rw[aj h7,aj h7];by_cases h8:k=8
   .obtain⟨rfl,rfl,rfl,rfl⟩:=v8 h8;rw[ai h8,ai h8,Sm.eo,aj h7,ai h8,Sm.lN b _ _ _ vb]
   .obtain rfl:=v9 h7 h8;rw[aj h8,aj h8,Sm.eo,aj h7,aj h8,Sm.MA b _ _ _ vb,Ex.lN hf r z sc e _ ve,El.lN hf r z sc el _ vl];have h2:∀st',(qq r sc st' g).free=(Ex.aP r sc st' g).free:=fun _=>rfl
    rw[h2,Ex.lN hf r z sc g _ vg];simp only[k9,cC];by_cases h6:k=6
    .have h3:(jl r sc t st).free=(jx r sc t st).free:=rfl;rw[ai h6,ai h6,ai h6,h3,MG hf r z sc t st (vt h6)];constructor
     .rintro(((((h|h)|h)|h)|h)|h)<;>simp[h]
     .rintro(h|(((h|h)|h)|h)|h)<;>simp[h]
    .rw[aj h6,aj h6];constructor
     .rintro((((h|h)|h)|h)|h)<;>simp[h]
     .rintro(h|(((h|h)|h)|h)|h)
      .simp[h]
      .simp[h]
      .simp[h]
      .simp[h]
      .simp[h]
      .simp at h
theorem De.xE:∀(s:De) (own sc:ag) (n:Nat) (st:bp),(Pa.de s).valid nm=true->(z∈(De.rs r own sc n st s).free↔z∈st.free\/z∈(s.w f own sc n).eo.filter nm)
 |.mk k o t ns e fo b,own,sc,n,st,v=>by
  obtain⟨v4,v5⟩:=De.vi v;have vb:=De.jo v;have ve:=De.kO v;simp only[De.body,De.ak]at vb ve;rw[De.rs,De.w];by_cases h4:k=4
  .obtain rfl:=v4 h4;rw[ai h4,ai h4,De.eo,ai h4,Sm.MA b _ _ _ vb];rfl
  .obtain⟨rfl,rfl⟩:=v5 h4;rw[aj h4,aj h4,De.eo,aj h4];exact Ex.lN hf r z _ e st ve
theorem De.lN:∀(l:List De) (own sc:ag) (n:Nat) (st:bp),(∀x,x∈l->(Pa.de x).valid nm=true)->(z∈(De.aP r own sc n st l).free↔z∈st.free\/z∈(De.cf (De.wl f own sc n l)).filter nm)
 |[],_,_,_,st,_=>by simp[De.aP,De.wl,De.cf]
 |x::l,own,sc,n,st,v=>by
  rw[De.aP,De.wl,De.cf,De.lN l own sc _ _ fun y hy=>v y (by simp[hy]),De.xE x own sc n st (v x sM),k9,cC,or_assoc]
theorem Sm.lN:∀(l:List Sm) (sc:ag) (n:Nat) (st:bp),(∀x,x∈l->(Pa.st x).valid nm=true)->(z∈(Sm.aP r sc n st l).free↔z∈st.free\/z∈(Sm.cf (Sm.wl f sc n l)).filter nm)
 |[],_,_,st,_=>by simp[Sm.aP,Sm.wl,Sm.cf]
 |x::l,sc,n,st,v=>by
  rw[Sm.aP,Sm.wl,Sm.cf,Sm.lN l sc _ _ fun y hy=>v y (by simp[hy]),Sm.xE x sc n st (v x sM),k9,cC,or_assoc]
theorem Sm.MA:∀(l:List Sm) (sc:ag) (n:Nat) (st:bp),(∀x,x∈l->(Pa.st x).valid nm=true)->(z∈(Sm.ip r sc n st l).free↔z∈st.free\/z∈(Sm.cf (Sm.w1 f sc n l)).filter nm)
 |[],_,_,st,_=>by simp[Sm.ip,Sm.w1,Sm.cf]
 |x::l,sc,n,st,v=>by
  rw[Sm.ip,Sm.w1,Sm.cf,Sm.MA l sc _ _ fun y hy=>v y (by simp[hy]),Sm.xE x _ _ st (v x sM),k9,cC,or_assoc]
end
end
def Sm.mV(s:Sm):List Bz:=(s.rs r0 [ah s.labels 0] (ah s.labels 0).length eT).free
def Sm.qiT(s:Sm)(v:(Pa.st s).valid ar=true):s.mV.foldl gq []=s.frees:=by
 refine Ze (Gu vR) fun z=>?_
 rw[qa,Sm.qek (f:=mF) LN s v];refine(Sm.xE LN r0 z s [ah s.labels 0] (ah s.labels 0).length eT v).trans ?_;show z∈([]:List Bz)\/_↔_;rfl
end Go.Proofs.YtbifpocccfkhhaaGreatDoor
