/- A part. -/
import Derived.Test.YtbifpocccfkhhaaGreatDoorKk
import Derived.Shelf.SlIter.Nil
import Derived.Shelf.SortM.Plain
import Derived.Shelf.SortM.SortNone
import Derived.Ground.GgzProg
import Derived.Ground.SlgmProg
set_option linter.all false
noncomputable section
namespace Go.Proofs.YtbifpocccfkhhaaGreatDoor
open Go
def Agr(bs:Nat→Bz)(n:Nat)(l:List Bz):Prop:=∀i x,l[i]?=some x→bs (n+i)=x
theorem Agr.fst{bs:Nat→Bz}{n:Nat}{l m:List Bz}(h:Agr bs n (l++m)):Agr bs n l:=fun i x hx=>h i x (by rw[qqW (qqT.1 hx).1];exact hx)
theorem Agr.snd{bs:Nat→Bz}{n:Nat}{l m:List Bz}(h:Agr bs n (l++m)):Agr bs (n+l.length) m:=fun i x hx=>by
 have:=h (l.length+i) x (by rw[qqU (by omega),qsi];exact hx);rwa [←qrF] at this
def ScB(bs:Nat→Bz)(sc:Scs):Prop:=∀s,s∈sc→∀e,e∈s→bs e.2=e.1
def mpE(f:Nat→Bz)(s:Sco):Sco:=s.map fun e=>(f e.2,e.2)
def mpS(f:Nat→Bz)(sc:Scs):Scs:=sc.map (mpE f)
section
variable {f bs:Nat→Bz} (h1:∀j k,f j=f k→bs j=bs k)
theorem qdI{s:Sco}{x:Bz}{k:Nat}(h:s.at x=some k):(x,k)∈s:=by
 unfold Sco.at at h;obtain ⟨e,he,hk⟩:=qq3.1 h;have h2:=List.find?_some he;simp only[decide_eq_true_eq] at h2;subst h2 hk;exact qsH he
theorem qjt{s:Sco}{x:Bz}(h:s.at x=none):∀e,e∈s→e.1≠x:=by
 unfold Sco.at at h;rw[Option.map_eq_none_iff,List.find?_eq_none] at h;intro e he hx;exact h e he (by simp[hx])
include h1
theorem qnK{s:Sco}(hb:∀e,e∈s→bs e.2=e.1){x:Bz}{k:Nat}(hx:bs k=x):Sco.at (mpE f s) (f k)=(if s.at x=none then none else s.at x)∨∃j,s.at x=some j:=by
 cases h:s.at x with
 | some j=>exact .inr ⟨j,rfl⟩
 | none=>
  refine .inl ?_;rw[if_pos rfl];unfold Sco.at mpE;rw[Option.map_eq_none_iff,List.find?_eq_none];intro e he hh;obtain ⟨e',he',rfl⟩:=qrf.1 he;simp only[decide_eq_true_eq] at hh;exact qjt h e' he' (by rw[←hb e' he',h1 _ _ hh,hx])
theorem qak{x:Bz}{k:Nat}:∀{s:Sco},(∀e,e∈s→bs e.2=e.1)→s.at x=some k→Sco.at (mpE f s) (f k)=some k
 | [],_,h=>by cases h
 | e::s,hb,h=>by
  unfold Sco.at at h ⊢;unfold mpE;rw[qq8,List.find?_cons];rw[List.find?_cons] at h;by_cases hx:e.1=x
  ·rw[decide_eq_true hx] at h;cases h;simp
  ·rw[decide_eq_false hx] at h;have hm:(x,k)∈s:=qdI (s:=s) h;have hk:=hb _ (qrV _ hm);have hf:¬ f e.2=f k:=fun hh=>hx (by rw[←hb e (qsG ..),h1 _ _ hh,hk])
   rw[decide_eq_false hf];exact qak (fun e he=>hb e (qrV _ he)) h
theorem qdd{x:Bz}{k:Nat}{s:Sco}(hb:∀e,e∈s→bs e.2=e.1)(h:s.at x=none)(hk:bs k=x):Sco.at (mpE f s) (f k)=none:=by
 rcases qnK h1 hb hk with h2|⟨j,h2⟩
 ·rw[h2,if_pos h]
 ·rw[h] at h2;cases h2
theorem qdf{x:Bz}{k:Nat}(hx:bs k=x):∀{sc:Scs},ScB bs sc→sc.at x=some k→(mpS f sc).at (f k)=some k
 | [],_,h=>by cases h
 | s::sc,hb,h=>by
  have hs:=hb s (qsG ..);have hr:ScB bs sc:=fun t ht=>hb t (qrV _ ht)
  unfold Scs.at at h;unfold mpS;rw[qq8];unfold Scs.at
  cases ha:Sco.at s x with
  | some j=>
   rw[ha] at h;cases h;rw[qak h1 hs ha]
  | none=>
   rw[ha] at h;rw[qdd h1 hs ha hx];exact qdf hx hr h
omit h1 in
theorem qcE{x:Bz}(hp:∀j,f j=x→bs j=x):∀{sc:Scs},ScB bs sc→sc.at x=none→(mpS f sc).at x=none
 | [],_,_=>rfl
 | s::sc,hb,h=>by
  have hs:=hb s (qsG ..);have hr:ScB bs sc:=fun t ht=>hb t (qrV _ ht)
  unfold Scs.at at h;unfold mpS;rw[qq8];unfold Scs.at
  cases ha:Sco.at s x with
  | some j=>rw[ha] at h;cases h
  | none=>
   rw[ha] at h
   have:Sco.at (mpE f s) x=none:=by
    unfold Sco.at mpE;rw[Option.map_eq_none_iff,List.find?_eq_none];intro e he hh;obtain ⟨e',he',rfl⟩:=qrf.1 he;simp only[decide_eq_true_eq] at hh;exact qjt ha e' he' (by rw[←hs e' he',hp _ hh])
   rw[this];exact qcE hp hr h
omit h1 in
theorem qfS{x:Bz}{k:Nat}:∀{sc:Scs},ScB bs sc→sc.at x=some k→bs k=x
 | [],_,h=>by cases h
 | s::sc,hb,h=>by
  unfold Scs.at at h
  cases ha:Sco.at s x with
  | some j=>
   rw[ha] at h;cases h;exact hb s (qsG ..) _ (qdI ha)
  | none=>
   rw[ha] at h;exact qfS (fun t ht=>hb t (qrV _ ht)) h
theorem JK(g:Nat→Bz){sc:Scs}(hb:ScB bs sc){x:Bz}(hp:sc.at x=none→∀j,f j=x→bs j=x):zH g (mpS f sc) (zH f sc x)=zH g sc x:=by
 unfold zH
 cases h:sc.at x with
 | some k=>simp only[qdf h1 (qfS hb h) hb h]
 | none=>simp only[qcE (hp h) hb h]
omit h1 in
theorem JJ{x:Bz}{k:Nat}:∀(l:List Bz) (s:Sco) (n:Nat),s.at x=some k→(binds l s n).at x=some k
 | [],s,n,h=>h
 | y::l,s,n,h=>by
  simp only[binds];split
  ·exact JJ l s n h
  ·refine JJ l _ _ ?_;unfold Sco.at at h ⊢;rw[qsN]
   cases hf:s.find? (fun p=>decide (p.1=x)) with
   | some p=>rw[hf] at h;exact h
   | none=>rw[hf] at h;cases h
omit h1 in
theorem qlO{s:Sco}{x:Bz}{n:Nat}(h:s.at x=none):Sco.at (s++[(x,n)]) x=some n:=by
 unfold Sco.at at h ⊢;rw[Option.map_eq_none_iff] at h;rw[qsN,h];simp
def rho(f:Nat→Bz)(S:Sco)(x:Bz):Bz:=match S.at x with
 | some k=>f k
 | none=>x
theorem jl{S:Sco}(hS:∀e,e∈S→bs e.2=e.1):∀(l:List Bz) (s:Sco) (n:Nat),binds l s n=S→(∀e,e∈s→bs e.2=e.1)→binds (l.map (rho f S)) (mpE f s) n=mpE f S
 | [],s,n,h,_=>by rw[←h];rfl
 | x::l,s,n,h,hs=>by
  rw[qq8];simp only[binds] at h ⊢
  cases hx:s.at x with
  | some k=>
   rw[hx] at h;simp only[Option.isSome_some,if_true] at h;have hk:S.at x=some k:=by rw[←h];exact JJ l s n hx
   have hr:rho f S x=f k:=by unfold rho;rw[hk]
   rw[hr,qak h1 hs hx];simp only[Option.isSome_some,if_true];exact jl hS l s n h hs
  | none=>
   rw[hx] at h;simp only[Option.isSome_none,qrn,if_false] at h;have hk:S.at x=some n:=by rw[←h];exact JJ l _ _ (qlO hx)
   have hb:bs n=x:=hS _ (qdI hk);have hr:rho f S x=f n:=by unfold rho;rw[hk]
   rw[hr,qdd h1 hs hx hb];simp only[Option.isSome_none,qrn,if_false]
   have:=jl hS l (s++[(x,n)]) (n+1) h fun e he=>by
    rcases qq0.1 he with he|he
    ·exact hs e he
    ·simp at he;subst he;exact hb
   rw[←this];unfold mpE;rw[qrg];rfl
omit h1 in
theorem Q6(b:Nat):∀(l:List Bz) (s:Sco) (n:Nat),n=b+s.length→(∀i e,s[i]?=some e→e.2=b+i)→∀i e,(binds l s n)[i]?=some e→e.2=b+i
 | [],s,n,_,h=>h
 | x::l,s,n,hn,h=>by
  simp only[binds];split
  ·exact Q6 b l s n hn h
  ·refine Q6 b l _ _ (by simp;omega) fun i e he=>?_
   by_cases hi:i<s.length
   ·rw[qqW hi] at he;exact h i e he
   ·rw[qqU (by omega)] at he;have:i - s.length=0:=by have:=(qqT.1 he).1;simp at this;omega
    rw[this] at he;simp at he;subst he;show n=b+i;omega
omit h1 in
theorem qcZ{l:List Bz}{n:Nat}(h:Agr bs n (nms l)):∀e,e∈qd l n→bs e.2=e.1:=fun e he=>by
 obtain ⟨i,hi⟩:=qse.1 he;have hp:=Q6 n l [] n (by simp) (by simp) i e hi;have hm:(qd l n).map (·.1)=nms l:=Qm 0 l [] [] n 0 rfl;have h2:(nms l)[i]?=some e.1:=by rw[←hm,qq7,hi];rfl
 rw[hp];exact h i _ h2
theorem QK{l:List Bz}{n:Nat}{sc:Scs}(h:Agr bs n (nms l)):qd (l.map (zH f (qd l n::sc))) n=mpE f (qd l n):=by
 have hb:=qcZ h
 have hm:l.map (zH f (qd l n::sc))=l.map (rho f (qd l n)):=qrx fun x hx=>by
  have hi:=JL x l [] n hx;unfold zH rho Scs.at
  cases ha:Sco.at (qd l n) x with
  | some k=>rfl
  | none=>unfold qd at ha;rw[ha] at hi;cases hi
 rw[hm];exact jl h1 hb l [] n rfl (fun e he=>by cases he)
omit h1 in
theorem Qg(s:Sco):(mpE f s).length=s.length:=qq2 _
omit h1 in
theorem ScB.cons{sc:Scs}{l:List Bz}{n:Nat}(h:ScB bs sc)(g:Agr bs n (nms l)):ScB bs (qd l n::sc):=fun s hs=>by
 rcases qrl.1 hs with rfl|hs
 ·exact qcZ g
 ·exact h s hs
end
theorem De.wl_names(f:Nat→Bz)(own sc:Scs):∀(l:List De) (n:Nat),(De.wl f own sc n l).flatMap De.names=(l.flatMap De.names).map (zH f own)
 | [],_=>rfl
 | x::l,n=>by
  rw[De.wl,qrs,qrs,qrg,De.wl_names f own sc l];congr 1;cases x;rw[De.w];split <;> rfl
theorem Sm.w_labels(f:Nat→Bz)(sc:Scs)(n:Nat)(x:Sm):(x.w f sc n).labels=x.labels.map (zH f sc):=by
 cases x;rw[Sm.w];split
 ·rfl
 ·split <;> rfl
theorem Sm.wl_labels(f:Nat→Bz)(sc:Scs):∀(l:List Sm) (n:Nat),qk (Sm.wl f sc n l)=(qk l).map (zH f sc)
 | [],_=>rfl
 | x::l,n=>by
  have:=Sm.wl_labels f sc l (n+Sm.nb x);unfold qk at this ⊢;rw[Sm.wl,qrs,qrs,qrg,this,Sm.w_labels]
theorem Jv(f:Nat→Bz)(own sc:Scs)(d:List De)(b:List Sm)(n m:Nat):qe (De.wl f own sc n d) (Sm.wl f own m b)=(qe d b).map (zH f own):=by
 unfold qe;rw[De.wl_names,Sm.wl_labels,qrg]
theorem Fos.w_names(f:Nat→Bz)(sc:Scs)(l:List Fo):(l.map (Fo.w f sc)).map Fo.name=(l.map Fo.name).map (zH f sc):=by
 rw[qr2,qr2];rfl
theorem qbB(l:List Bz)(n:Nat):(qd l n).map (·.2)=List.range' n (qd l n).length:=by
 refine qrM fun i=>?_
 rw[qq7]
 cases h:(qd l n)[i]? with
 | none=>
  have:=qsv.1 h;rw[qrv (by simpa using this)];rfl
 | some e=>
  have:=(qqT.1 h).1;rw[List.getElem?_range' this,qre,Q6 n l [] n (by simp) (by simp) i e h,Nat.one_mul]
theorem qfP{l:List Bz}(n:Nat):nms l=(qd l n).map (·.1):=Qm 0 l [] [] 0 n rfl
set_option linter.unusedSectionVars false
section
variable {f bs:Nat→Bz} (h1:∀j k,f j=f k→bs j=bs k)
include h1
theorem qhG{l:List Bz}{n:Nat}{sc:Scs}(h:Agr bs n (nms l)):nms (l.map (zH f (qd l n::sc)))=(List.range' n (qd l 0).length).map f:=by
 rw[qfP n,QK h1 h,←qq l n 0,←qbB];unfold mpE;rw[qr2,qr2];rfl
mutual
theorem Sm.bn_w:∀(s:Sm) (sc:Scs) (n:Nat),Agr bs n s.bn→(s.w f sc n).bn=(List.range' n s.nb).map f
 | .mk l k t g e hh d b,sc,n,ha=>by
  rw[Sm.bn] at ha;rw[Sm.w,Sm.nb];by_cases h7:k=7
  ·rw[if_pos h7] at ha ⊢;rw[if_pos h7,Sm.bn,if_pos h7,Jv,qhG h1 ha.fst.fst];have hd:=ha.fst.snd;have hb:=ha.snd;rw[qrd,De.bnl_length,qz,←qrF] at hb;rw[qz] at hd;rw[qq _ n 0,De.bnl_w d _ _ _ hd,Sm.bnl_w b _ _ hb,←qrg,qsb,←qrg,qrF,qsb]
  ·rw[if_neg h7] at ha ⊢;by_cases h8:k=8
   ·rw[if_pos h8] at ha ⊢;rw[if_neg h7,if_pos h8,Sm.bn,if_neg h7,if_pos h8,Sm.wl_labels,qhG h1 ha.fst];have hb:=ha.snd;rw[qz] at hb;rw[qq _ n 0,Sm.bnl_w b _ _ hb,←qrg,qsb]
   ·rw[if_neg h8] at ha ⊢;rw[if_neg h7,if_neg h8,Sm.bn,if_neg h7,if_neg h8,Sm.bn1_w b _ _ ha]
theorem De.bn_w:∀(s:De) (own sc:Scs) (n:Nat),Agr bs n s.bn→(s.w f own sc n).bn=(List.range' n s.nb).map f
 | .mk k o t ns e fo b,own,sc,n,ha=>by
  rw[De.bn] at ha;rw[De.w,De.nb];by_cases h4:k=4
  ·rw[if_pos h4] at ha ⊢;have hb:=ha.snd;rw[qz] at hb;rw[if_pos h4,De.bn,if_pos h4,Fos.w_names,qhG h1 ha.fst,qq _ n 0,Sm.bn1_w b _ _ hb,←qrg,qsb]
  ·rw[if_neg h4,if_neg h4,De.bn,if_neg h4];rfl
theorem De.bnl_w:∀(l:List De) (own sc:Scs) (n:Nat),Agr bs n (De.bnl l)→De.bnl (De.wl f own sc n l)=(List.range' n (De.nbl l)).map f
 | [],_,_,_,_=>rfl
 | x::l,own,sc,n,ha=>by
  rw[De.bnl] at ha;have h2:=ha.snd;rw[De.bn_length] at h2;rw[De.wl,De.bnl,De.nbl,De.bn_w x own sc n ha.fst,De.bnl_w l own sc _ h2,←qrg,qsb]
theorem Sm.bnl_w:∀(l:List Sm) (sc:Scs) (n:Nat),Agr bs n (Sm.bnl l)→Sm.bnl (Sm.wl f sc n l)=(List.range' n (Sm.nbl l)).map f
 | [],_,_,_=>rfl
 | x::l,sc,n,ha=>by
  rw[Sm.bnl] at ha;have h2:=ha.snd;rw[Sm.bn_length] at h2;rw[Sm.wl,Sm.bnl,Sm.nbl,Sm.bn_w x sc n ha.fst,Sm.bnl_w l sc _ h2,←qrg,qsb]
theorem Sm.bn1_w:∀(l:List Sm) (sc:Scs) (n:Nat),Agr bs n (Sm.bn1 l)→Sm.bn1 (Sm.w1 f sc n l)=(List.range' n (Sm.nb1 l)).map f
 | [],_,_,_=>rfl
 | x::l,sc,n,ha=>by
  rw[Sm.bn1] at ha;have h2:=ha.snd;have h3:=ha.fst.snd;rw[qrd,Sm.bn_length,qz,←qrF] at h2;rw[qz] at h3;rw[Sm.w1,Sm.bn1,Sm.nb1,Sm.w_labels,qhG h1 ha.fst.fst,qq _ n 0,Sm.bn_w x _ _ h3,Sm.bn1_w l sc _ h2,←qrg,qsb,←qrg,qrF,qsb]
end
theorem Sm.nb_w(s:Sm)(sc:Scs)(n:Nat)(h:Agr bs n s.bn):(s.w f sc n).nb=s.nb:=by rw[←Sm.bn_length,Sm.bn_w h1 s sc n h];simp
theorem De.nb_w(s:De)(own sc:Scs)(n:Nat)(h:Agr bs n s.bn):(s.w f own sc n).nb=s.nb:=by rw[←De.bn_length,De.bn_w h1 s own sc n h];simp
theorem De.nbl_w(l:List De)(own sc:Scs)(n:Nat)(h:Agr bs n (De.bnl l)):De.nbl (De.wl f own sc n l)=De.nbl l:=by rw[←De.bnl_length,De.bnl_w h1 l own sc n h];simp
omit h1 in
theorem qcO(g:Nat→Bz){sc:Scs}{l:List Bz}(h1:∀j k,f j=f k→bs j=bs k)(hb:ScB bs sc)(hl:qeJ sc l):(l.map (zH f sc)).map (zH g (mpS f sc))=l.map (zH g sc):=by
 rw[qr2];refine qrx fun x hx=>JK h1 g hb fun hn=>?_
 have:=hl x hx;rw[hn] at this;cases this
def Fre(f bs:Nat→Bz)(e:Oc):Prop:=e.2.at e.1=none→∀j,f j=e.1→bs j=e.1
mutual
theorem Ex.ww(g:Nat→Bz){sc:Scs}(hb:ScB bs sc):∀x:Ex,(∀e,e∈x.ev sc→Fre f bs e)→(x.w f sc).w g (mpS f sc)=x.w g sc
 | .mk k o n m e t a,h=>by
  rw[Ex.ev] at h;simp only[Ex.w];rw[Ex.wwl g hb a fun e he=>h e (qq6 _ he)];by_cases hk:Ex.named k=true
  ·rw[if_pos hk] at h;rw[if_pos hk,if_pos hk,if_pos hk,JK h1 g hb (h (t,sc) (by simp))]
  ·rw[if_neg hk,if_neg hk,if_neg hk]
theorem Ex.wwl(g:Nat→Bz){sc:Scs}(hb:ScB bs sc):∀l:List Ex,(∀e,e∈Ex.evl sc l→Fre f bs e)→Ex.wl g (mpS f sc) (Ex.wl f sc l)=Ex.wl g sc l
 | [],_=>rfl
 | x::l,h=>by
  rw[Ex.evl] at h;simp only[Ex.wl];rw[Ex.ww g hb x fun e he=>h e (qq6 _ he),Ex.wwl g hb l fun e he=>h e (qq9 _ he)]
end
theorem El.wwl(g:Nat→Bz){sc:Scs}(hb:ScB bs sc):∀l:List El,(∀e,e∈El.evl sc l→Fre f bs e)→(l.map (El.w f sc)).map (El.w g (mpS f sc))=l.map (El.w g sc)
 | [],_=>rfl
 | x::l,h=>by
  rw[El.evl] at h;have h2:=Ex.wwl h1 g hb x.exps fun e he=>h e (qq6 _ he)
  simp only[Ex.wl_map] at h2;rw[qq8,qq8,qq8,El.wwl g hb l fun e he=>h e (qq9 _ he)];unfold El.w;rw[h2]
omit h1 in
theorem qjA(l:List Fo)(n:Nat)(sc:Scs):qeJ (qd (l.map Fo.name) n::sc) (l.map Fo.name):=zJ _ _ _
omit h1 in
theorem qoA{l:List Bz}{k:Int}{t:Bz}{g e:List Ex}{h:List El}{d d':List De}{b b':List Sm}(h1:d=d')(h2:b=b'):Sm.mk l k t g e h d b=Sm.mk l k t g e h d' b':=by rw[h1,h2]
mutual
theorem Sm.ww(g:Nat→Bz):∀(s:Sm) (sc:Scs) (n:Nat),ScB bs sc→Agr bs n s.bn→qeJ sc s.labels→(∀e,e∈s.ev sc n→Fre f bs e)→(s.w f sc n).w g (mpS f sc) n=s.w g sc n
 | .mk l k t gs e hh d b,sc,n,hb,ha,hl,he=>by
  rw[Sm.bn] at ha;rw[Sm.ev] at he;have hlab:=qcO g h1 hb hl;simp only[Sm.labels] at hlab;by_cases h7:k=7
  ·rw[if_pos h7] at ha he;have hd:=ha.fst.snd;have hbb:=ha.snd;rw[qrd,De.bnl_length,qz,←qrF,←qq _ n 0] at hbb;rw[qz,←qq _ n 0] at hd;simp only[Sm.w,if_pos h7];rw[Jv,QK h1 ha.fst.fst,Qg,De.nbl_w h1 d _ _ _ hd,hlab];have hs:=hb.cons ha.fst.fst;have e1:=De.wwl g d _ sc _ hs hb hd (zJ _ n sc) (fun x hx=>qq6 _ hx) fun e h=>he e (qq6 _ h)
   have e2:=Sm.wwl g b _ _ hs hbb (fun x hx=>zJ (qe d b) n sc x (qq9 _ hx)) fun e h=>he e (qq9 _ h)
   exact qoA e1 e2
  ·rw[if_neg h7] at ha he;by_cases h8:k=8
   ·rw[if_pos h8] at ha he;have hbb:=ha.snd;rw[qz,←qq _ n 0] at hbb;simp only[Sm.w,if_neg h7,if_pos h8];rw[Sm.wl_labels,QK h1 ha.fst,Qg,hlab];have e2:=Sm.wwl g b _ _ (hb.cons ha.fst) hbb (zJ _ n sc) he;exact congrArg (Sm.mk _ _ _ _ _ _ _) e2
   ·rw[if_neg h8] at ha he;simp only[Sm.w,if_neg h7,if_neg h8];have e1:=Ex.wwl h1 g hb gs fun x hx=>he x (by simp[hx])
    have e2:=Ex.wwl h1 g hb e fun x hx=>he x (by simp[hx])
    have e3:=El.wwl h1 g hb hh fun x hx=>he x (by simp[hx])
    have e4:=Sm.ww1 g b sc n hb ha fun x hx=>he x (by simp[hx])
    rw[hlab,e1,e2,e3,e4];by_cases h6:k=6
    ·rw[if_pos h6,if_pos h6,if_pos h6,JK h1 g hb (he (t,sc) (by simp[h6]))]
    ·rw[if_neg h6,if_neg h6,if_neg h6]
theorem De.ww(g:Nat→Bz):∀(s:De) (own sc:Scs) (n:Nat),ScB bs own→ScB bs sc→Agr bs n s.bn→qeJ own s.names→(∀e,e∈s.ev own sc n→Fre f bs e)→(s.w f own sc n).w g (mpS f own) (mpS f sc) n=s.w g own sc n
 | .mk k o t ns e fo b,own,sc,n,ho,hb,ha,hl,he=>by
  rw[De.bn] at ha;rw[De.ev] at he;have hlab:=qcO g h1 ho hl;simp only[De.names] at hlab;by_cases h4:k=4
  ·rw[if_pos h4] at ha he;have hbb:=ha.snd;rw[qz,←qq _ n 0] at hbb;have hs:=ho.cons ha.fst;simp only[De.w,if_pos h4];rw[Fos.w_names,QK h1 ha.fst,Qg,hlab];have e1:=Sm.ww1 g b _ _ hs hbb he
   have e2:(fo.map (Fo.w f (qd (fo.map Fo.name) n::own))).map (Fo.w g (mpE f (qd (fo.map Fo.name) n)::mpS f own))=fo.map (Fo.w g (qd (fo.map Fo.name) n::own)):=by
    rw[qr2];refine qrx fun x hx=>?_
    have h3:=JK h1 g hs (x:=x.name) fun hn=>by
     have:=zJ (fo.map Fo.name) n own x.name (qrG hx);rw[hn] at this;cases this
    show Fo.mk _ _ _ _=Fo.mk _ _ _ _;rw[show zH g (mpE f (qd (fo.map Fo.name) n)::mpS f own) (Fo.w f (qd (fo.map Fo.name) n::own) x).name=_ from h3];rfl
   rw[e2];exact congrArg (De.mk _ _ _ _ _ _) e1
  ·rw[if_neg h4] at he;simp only[De.w,if_neg h4];rw[hlab];by_cases h2:k=2
   ·rw[if_pos h2] at he;rw[if_pos h2,if_pos h2,Ex.wwl h1 g hb e he]
   ·rw[if_neg h2] at he;rw[if_neg h2,if_neg h2,Ex.wwl h1 g ho e he]
theorem De.wwl(g:Nat→Bz):∀(l:List De) (own sc:Scs) (n:Nat),ScB bs own→ScB bs sc→Agr bs n (De.bnl l)→∀{m:List Bz},qeJ own m→(∀x,x∈l.flatMap De.names→x∈m)→(∀e,e∈De.evl own sc n l→Fre f bs e)→De.wl g (mpS f own) (mpS f sc) n (De.wl f own sc n l)=De.wl g own sc n l
 | [],_,_,_,_,_,_,_,_,_,_=>rfl
 | x::l,own,sc,n,ho,hb,ha,m,hm,hl,he=>by
  rw[De.bnl] at ha;rw[De.evl] at he;have h2:=ha.snd;rw[De.bn_length] at h2;simp only[De.wl];rw[De.nb_w h1 x own sc n ha.fst,De.ww g x own sc n ho hb ha.fst (fun y hy=>hm y (hl y (by rw[qrs];exact qq6 _ hy))) fun e h=>he e (qq6 _ h),
   De.wwl g l own sc _ ho hb h2 hm (fun y hy=>hl y (by rw[qrs];exact qq9 _ hy)) fun e h=>he e (qq9 _ h)]
theorem Sm.wwl(g:Nat→Bz):∀(l:List Sm) (sc:Scs) (n:Nat),ScB bs sc→Agr bs n (Sm.bnl l)→qeJ sc (qk l)→(∀e,e∈Sm.evl sc n l→Fre f bs e)→Sm.wl g (mpS f sc) n (Sm.wl f sc n l)=Sm.wl g sc n l
 | [],_,_,_,_,_,_=>rfl
 | x::l,sc,n,hb,ha,hl,he=>by
  rw[Sm.bnl] at ha;rw[Sm.evl] at he;have h2:=ha.snd;rw[Sm.bn_length] at h2;simp only[Sm.wl];have hx:∀y,y∈qk l→y∈qk (x::l):=fun y hy=>by unfold qk;rw[qrs];exact qq9 _ hy
  rw[Sm.nb_w h1 x sc n ha.fst,Sm.ww g x sc n hb ha.fst (fun y hy=>hl y (by unfold qk;rw[qrs];exact qq6 _ hy)) fun e h=>he e (qq6 _ h),
   Sm.wwl g l sc _ hb h2 (fun y hy=>hl y (hx y hy)) fun e h=>he e (qq9 _ h)]
theorem Sm.ww1(g:Nat→Bz):∀(l:List Sm) (sc:Scs) (n:Nat),ScB bs sc→Agr bs n (Sm.bn1 l)→(∀e,e∈Sm.ev1 sc n l→Fre f bs e)→Sm.w1 g (mpS f sc) n (Sm.w1 f sc n l)=Sm.w1 g sc n l
 | [],_,_,_,_,_=>rfl
 | x::l,sc,n,hb,ha,he=>by
  rw[Sm.bn1] at ha;rw[Sm.ev1] at he;have h2:=ha.snd;have h3:=ha.fst.snd;rw[qrd,Sm.bn_length,qz,←qrF,←qq _ n 0] at h2;rw[qz,←qq _ n 0] at h3;have hs:=hb.cons (sc:=sc) ha.fst.fst;simp only[Sm.w1];have e1:=Sm.ww g x _ _ hs h3 (zJ _ n sc) fun e h=>he e (qq6 _ h)
  have e2:=Sm.ww1 g l sc _ hb h2 fun e h=>he e (qq9 _ h)
  rw[Sm.w_labels,QK h1 ha.fst.fst,Qg,Sm.nb_w h1 x _ _ h3,e2];exact congrArg (·::_) e1
end
end
abbrev Lk:=Bz→Option Ex
def sbn(lk:Lk)(t:Bz):Bz:=match lk t with
 | some y=>y.text
 | none=>t
def qaK(lk:Lk)(t:Bz):Bool:=match lk t with
 | some y=>decide (y.kind≠6)
 | none=>false
def qeK(lk:Lk)(tg:Bool)(t:Bz):Bool:=match lk t with
 | some y=>tg && decide (y.kind≠6) && decide (y.kind≠7)
 | none=>false
mutual
def Ex.sb(lk:Lk):Ex→Ex
 | .mk k o n m e t a=>if k=6 then (match lk t with
   | some y=>y
   | none=>.mk k o n m e t (Ex.sbl lk a))
  else .mk k o n m e (if Ex.named k then sbn lk t else t) (Ex.sbl lk a)
def Ex.sbl(lk:Lk):List Ex→List Ex
 | []=>[]
 | x::l=>Ex.sb lk x::Ex.sbl lk l
end
mutual
def Ex.sbad(lk:Lk)(tg:Bool):Ex→Bool
 | .mk k _ _ _ _ t a=>Ex.sbadl lk false a || (if k=6 then qeK lk tg t else Ex.named k && qaK lk t)
def Ex.sbadl(lk:Lk)(tg:Bool):List Ex→Bool
 | []=>false
 | x::l=>Ex.sbad lk tg x || Ex.sbadl lk tg l
end
def El.sb(lk:Lk)(e:El):El:=⟨e.kind,Ex.sbl lk e.exps⟩
def El.sbadl(lk:Lk):List El→Bool
 | []=>false
 | x::l=>Ex.sbadl lk false x.exps || El.sbadl lk l
mutual
def Sm.sb(lk:Lk):Sm→Sm
 | .mk l k t g e h d b=>.mk l k (if k=6 then sbn lk t else t) (Ex.sbl lk g) (Ex.sbl lk e) (h.map (El.sb lk)) (De.sbl lk d) (Sm.sbl lk b)
def De.sb(lk:Lk):De→De
 | .mk k o t n e f b=>.mk k o t n (Ex.sbl lk e) f (Sm.sbl lk b)
def De.sbl(lk:Lk):List De→List De
 | []=>[]
 | x::l=>De.sb lk x::De.sbl lk l
def Sm.sbl(lk:Lk):List Sm→List Sm
 | []=>[]
 | x::l=>Sm.sb lk x::Sm.sbl lk l
end
mutual
def Sm.sbad(lk:Lk):Sm→Bool
 | .mk _ k t g e h d b=>Ex.sbadl lk true g || Ex.sbadl lk false e || El.sbadl lk h || De.sbadl lk d || Sm.sbadl lk b || (decide (k=6) && qaK lk t)
def De.sbad(lk:Lk):De→Bool
 | .mk _ _ _ _ e _ b=>Ex.sbadl lk false e || Sm.sbadl lk b
def De.sbadl(lk:Lk):List De→Bool
 | []=>false
 | x::l=>De.sbad lk x || De.sbadl lk l
def Sm.sbadl(lk:Lk):List Sm→Bool
 | []=>false
 | x::l=>Sm.sbad lk x || Sm.sbadl lk l
end
def sbT(lk:Lk)(sc:Scs)(t:Bz):Bz:=match sc.at t with
 | some _=>t
 | none=>sbn lk t
def qaM(lk:Lk)(sc:Scs)(t:Bz):Bool:=match sc.at t with
 | some _=>false
 | none=>qaK lk t
def sbX(lk:Lk)(sc:Scs)(x:Ex):Ex:=match sc.at x.text with
 | some _=>x
 | none=>(lk x.text).getD x
def qeN(lk:Lk)(sc:Scs)(tg:Bool)(t:Bz):Bool:=match sc.at t with
 | some _=>false
 | none=>qeK lk tg t
def sbP(lk:Lk):Pw where
 H:=Bool
 f _ x:=x
 nm:=some fun x sc _=>if x.kind=6 then sbX lk sc x else .mk x.kind x.op x.n x.man x.exp (sbT lk sc x.text) x.args
 cl:=some fun x sc=>sbT lk sc x
 ent h _ _:=h
 nmH h x sc tg:=h || (if x.kind=6 then qeN lk sc tg x.text else qaM lk sc x.text)
 clH h x sc:=h || qaM lk sc x
section
variable {p:Pw} (hp:∀k x,p.f k x=x)
include hp
theorem qhv(sc:Scs)(x:Bz):ZF p sc x=x:=by
 unfold ZF;cases sc.at x <;> simp[hp]
theorem qL(sc:Scs)(l:List Bz):l.map (ZF p sc)=l:=by
 rw[qrx fun x _=>qhv hp sc x];simp
theorem Sm.wr_labels(sc:Scs)(n:Nat)(x:Sm):(x.wr p sc n).labels=x.labels:=by
 cases x;rw[Sm.wr];split
 ·exact qL hp _ _
 ·split <;> exact qL hp _ _
theorem Sm.wrl_labels(sc:Scs):∀(l:List Sm) (n:Nat),qk (Sm.wrl p sc n l)=qk l
 | [],_=>rfl
 | x::l,n=>by
  have:=Sm.wrl_labels sc l (n+Sm.nb x);unfold qk at this ⊢;rw[Sm.wrl,qrs,qrs,this,Sm.wr_labels hp]
theorem De.wrl_names(own sc:Scs):∀(l:List De) (n:Nat),(De.wrl p own sc n l).flatMap De.names=l.flatMap De.names
 | [],_=>rfl
 | x::l,n=>by
  rw[De.wrl,qrs,qrs,De.wrl_names own sc l];congr 1;cases x;rw[De.wr];split <;> exact qL hp _ _
theorem QW(own sc:Scs)(d:List De)(b:List Sm)(n m:Nat):qe (De.wrl p own sc n d) (Sm.wrl p own m b)=qe d b:=by
 unfold qe;rw[De.wrl_names hp,Sm.wrl_labels hp]
theorem Fo.wr_id(sc:Scs)(l:List Fo):l.map (Fo.wr p sc)=l:=by
 rw[qrx fun x _=>(show Fo.wr p sc x=x by unfold Fo.wr;rw[qhv hp])];simp
variable {nm:Bz→Bool}
mutual
theorem Sm.bn_wr:∀(s:Sm) (sc:Scs) (n:Nat),(Pa.st s).valid nm=true→(s.wr p sc n).bn=s.bn
 | .mk l k t g e hh d b,sc,n,v=>by
  have vd:=Sm.valid_decls v;have vb:=Sm.valid_body v;simp only[Sm.decls,Sm.body] at vd vb;rw[Sm.wr];by_cases h7:k=7
  ·rw[if_pos h7,Sm.bn,if_pos h7,Sm.bn,if_pos h7,QW hp,De.bnl_wr d _ _ _ vd,Sm.bnl_wr b _ _ vb]
  ·by_cases h8:k=8
   ·rw[if_neg h7,if_pos h8,Sm.bn,if_neg h7,if_pos h8,Sm.bn,if_neg h7,if_pos h8,Sm.wrl_labels hp,Sm.bnl_wr b _ _ vb]
   ·rw[if_neg h7,if_neg h8,Sm.bn,if_neg h7,if_neg h8,Sm.bn,if_neg h7,if_neg h8,Sm.bn1_wr b _ _ vb]
theorem De.bn_wr:∀(s:De) (own sc:Scs) (n:Nat),(Pa.de s).valid nm=true→(s.wr p own sc n).bn=s.bn
 | .mk k o t ns e fo b,own,sc,n,v=>by
  have vb:=De.valid_body v;simp only[De.body] at vb;rw[De.wr];by_cases h4:k=4
  ·rw[if_pos h4,De.bn,if_pos h4,De.bn,if_pos h4,Fo.wr_id hp,Sm.bn1_wr b _ _ vb]
  ·rw[if_neg h4,De.bn,if_neg h4,De.bn,if_neg h4]
theorem De.bnl_wr:∀(l:List De) (own sc:Scs) (n:Nat),(∀x,x∈l→(Pa.de x).valid nm=true)→De.bnl (De.wrl p own sc n l)=De.bnl l
 | [],_,_,_,_=>rfl
 | x::l,own,sc,n,v=>by rw[De.wrl,De.bnl,De.bnl,De.bn_wr x own sc n (v x (by simp)),De.bnl_wr l own sc _ fun y hy=>v y (by simp[hy])]
theorem Sm.bnl_wr:∀(l:List Sm) (sc:Scs) (n:Nat),(∀x,x∈l→(Pa.st x).valid nm=true)→Sm.bnl (Sm.wrl p sc n l)=Sm.bnl l
 | [],_,_,_=>rfl
 | x::l,sc,n,v=>by rw[Sm.wrl,Sm.bnl,Sm.bnl,Sm.bn_wr x sc n (v x (by simp)),Sm.bnl_wr l sc _ fun y hy=>v y (by simp[hy])]
theorem Sm.bn1_wr:∀(l:List Sm) (sc:Scs) (n:Nat),(∀x,x∈l→(Pa.st x).valid nm=true)→Sm.bn1 (Sm.wr1 p sc n l)=Sm.bn1 l
 | [],_,_,_=>rfl
 | x::l,sc,n,v=>by rw[Sm.wr1,Sm.bn1,Sm.bn1,Sm.wr_labels hp,Sm.bn_wr x _ _ (v x (by simp)),Sm.bn1_wr l sc _ fun y hy=>v y (by simp[hy])]
end
theorem Sm.nb_wr(s:Sm)(sc:Scs)(n:Nat)(v:(Pa.st s).valid nm=true):(s.wr p sc n).nb=s.nb:=by rw[←Sm.bn_length,Sm.bn_wr hp s sc n v,Sm.bn_length]
theorem De.nb_wr(s:De)(own sc:Scs)(n:Nat)(v:(Pa.de s).valid nm=true):(s.wr p own sc n).nb=s.nb:=by rw[←De.bn_length,De.bn_wr hp s own sc n v,De.bn_length]
theorem De.nbl_wr(l:List De)(own sc:Scs)(n:Nat)(v:∀x,x∈l→(Pa.de x).valid nm=true):De.nbl (De.wrl p own sc n l)=De.nbl l:=by rw[←De.bnl_length,De.bnl_wr hp l own sc n v,De.bnl_length]
end
open Go.Proofs.Tryz
set_option maxRecDepth 20000
noncomputable def c110:F':=⟨11,[.t 5],.k [.a 5 (.str ⟨⟨[]⟩⟩)] (.k [.l 6 2,.m 7 0,.m 8 1,.o 9 (.call (.t 6) [(.t 7),(.t 8)])] (.k [.m 10 0,.m 5 10] .ret))⟩
theorem ok110:okF f110 c110:=okI
abbrev ptV(p:Nat):V:=.ptr p 0 0 1
def coU(h:List Bz×List Bz)(x:Bz)(sc:Scs):List Bz×List Bz:=match sc.at x with
 | some _=>h
 | none=>(h.1++[x],h.2)
def coP:Pw where
 H:=List Bz×List Bz
 f _ x:=x
 nm:=some fun x _ _=>x
 cl:=some fun x _=>x
 ent h _ x:=(h.1,h.2++[x])
 nmH h x sc _:=coU h x.text sc
 clH h x sc:=coU h x sc
structure Co(m c4 c5 c6:Nat)(h:List Bz×List Bz)(v:V)(ps:List Nat)(F D:Np)(U:St):Prop where
 f4:U[c4]?=some (.arr [.map m] 1 1)
 fm:∃bs ck,Za bs ck∧U[m]?=some (.map ((h.1.foldl yR []).map kv) bs ck)
 f5:U[c5]?=some (.arr [v] 1 1)
 f6:U[c6]?=some (.arr [.fn (.func 107) [] [.ptr c4 0 0 1]] 1 1)
 gr:(ps=[]∧v=.sl true [])∨∃a wr,v=.arr a 0 ps.length ps.length∧U[a]?=some (.arr (ps.map ptV) 1 wr)∧wr≤ps.length∧F a∧a≠c5
 pn:ps.length=h.2.length
 pl:∀i p x,ps[i]?=some p→h.2[i]?=some x→D p∧U[p]?=some (plc x i x)
 dF:∀l,F l→l=m∨l=c5∨∃n,v=.arr l 0 n n
 dD:∀l,D l→l=c4∨l=c6∨l∈ps
 hm:F m
 h5:F c5
 h4:D c4
 h6:D c6
def coC(m c4 c5 c6:Nat):Cb where
 toPw:=coP
 fe:=.fn (.func 108) [] [.ptr c5 0 0 1]
 fn:=.fn (.func 109) [] [.ptr c6 0 0 1]
 fc:=.fn (.func 110) [] [.ptr c6 0 0 1]
 I h F D U:=∃v ps,Co m c4 c5 c6 h v ps F D U
 cn h n:=h.2.length=n
 lim:=100001
theorem YZ{U:St}{i j:Nat}{a b:Ob}(h:U[i]?=some a)(g:U[j]?=some b)(n:a≠b):i≠j:=by
 rintro rfl;rw[h] at g;cases g;exact n rfl
section
variable {m c4 c5 c6:Nat} {h:List Bz×List Bz} {v:V} {ps:List Nat} {F D:Np} {U:St}
theorem Co.place(k:Co m c4 c5 c6 h v ps F D U){p:Nat}(hp:p∈ps):∃x i,D p∧U[p]?=some (plc x i x):=by
 obtain ⟨i,hi⟩:=qse.1 hp;have h1:=(qqT.1 hi).1;rw[k.pn] at h1;exact ⟨_,i,k.pl i p _ hi (qqZ h1)⟩
theorem Co.gF(k:Co m c4 c5 c6 h v ps F D U){l:Nat}(hl:F l):∃o,U[l]?=some o∧(∀i,o≠.loop i)∧¬ D l:=by
 have nD:∀o,U[l]?=some o→o≠.arr [.map m] 1 1→o≠.arr [.fn (.func 107) [] [.ptr c4 0 0 1]] 1 1→(∀x i,o≠plc x i x)→¬ D l:=fun o ho n1 n2 n3 hD=>by
  rcases k.dD l hD with rfl|rfl|hp
  ·rw[k.f4] at ho;cases ho;exact n1 rfl
  ·rw[k.f6] at ho;cases ho;exact n2 rfl
  ·obtain ⟨x,i,_,h2⟩:=k.place hp;rw[h2] at ho;cases ho;exact n3 x i rfl
 rcases k.dF l hl with rfl|rfl|⟨n,hv⟩
 ·obtain ⟨bs,ck,hst,hm⟩:=k.fm;exact ⟨_,hm,by simp,nD _ hm (by simp) (by simp) (by simp[plc])⟩
 ·refine ⟨_,k.f5,by simp,nD _ k.f5 ?_ ?_ (by simp[plc])⟩
  ·rcases k.gr with ⟨_,rfl⟩|⟨a,wr,rfl,_⟩ <;> simp
  ·rcases k.gr with ⟨_,rfl⟩|⟨a,wr,rfl,_⟩ <;> simp
 ·rcases k.gr with ⟨_,rfl⟩|⟨a,wr,rfl,ha,_,_⟩
  ·cases hv
  ·cases hv;refine ⟨_,ha,by simp,nD _ ha ?_ ?_ (by simp[plc])⟩
   ·intro hh;injection hh with hh;cases ps <;> simp at hh
   ·intro hh;injection hh with hh;cases ps <;> simp at hh
theorem Co.gD(k:Co m c4 c5 c6 h v ps F D U){l:Nat}(hl:D l):∃o,U[l]?=some o∧∀i,o≠.loop i:=by
 rcases k.dD l hl with rfl|rfl|hp
 ·exact ⟨_,k.f4,by simp⟩
 ·exact ⟨_,k.f6,by simp⟩
 ·obtain ⟨x,i,_,h2⟩:=k.place hp;exact ⟨_,h2,by simp[plc]⟩
theorem Co.fr{U':St}{M:Np}(k:Co m c4 c5 c6 h v ps F D U)(hk:Kp M U U')(hM:∀l,M l→l<U.length→¬ F l∧¬ D l):Co m c4 c5 c6 h v ps F D U':=by
 have nF:∀{l o},U[l]?=some o→F l→U'[l]?=some o:=fun ho hf=>hk.at ho fun hm=>(hM _ hm (glt ho)).1 hf
 have nD:∀{l o},U[l]?=some o→D l→U'[l]?=some o:=fun ho hf=>hk.at ho fun hm=>(hM _ hm (glt ho)).2 hf
 obtain ⟨bs,ck,hst,hm⟩:=k.fm;exact ⟨nD k.f4 k.h4,⟨bs,ck,hst,nF hm k.hm⟩,nF k.f5 k.h5,nD k.f6 k.h6,k.gr.imp id fun ⟨a,wr,h1,h2,h3,h4,h5⟩=>⟨a,wr,h1,nF h2 h4,h3,h4,h5⟩,k.pn,fun i p x h1 h2=>⟨(k.pl i p x h1 h2).1,nD (k.pl i p x h1 h2).2 (k.pl i p x h1 h2).1⟩,k.dF,k.dD,k.hm,k.h5,k.h4,k.h6⟩
theorem Co.use(k:Co m c4 c5 c6 h v ps F D U)(x:Bz){bs:List Nat}{ck:Nat}(hst:Za bs ck):Co m c4 c5 c6 (h.1++[x],h.2) v ps F D (U.set m (.map (((h.1++[x]).foldl yR []).map kv) bs ck)):=by
 obtain ⟨bs0,ck0,_,hm⟩:=k.fm
 have g:∀{l o},U[l]?=some o→(∀a b c,o≠Ob.map a b c)→(U.set m (.map (((h.1++[x]).foldl yR []).map kv) bs ck))[l]?=some o:=fun {l o} ho n=>by
  rw[qqX]
  ·exact ho
  ·exact YZ hm ho (Ne.symm (n _ _ _))
 exact ⟨g k.f4 (by simp),⟨bs,ck,hst,qqV (glt hm)⟩,g k.f5 (by simp),g k.f6 (by simp),k.gr.imp id fun ⟨a,wr,h1,h2,h3,h4,h5⟩=>⟨a,wr,h1,g h2 (by simp),h3,h4,h5⟩,k.pn,fun i p x h1 h2=>⟨(k.pl i p x h1 h2).1,g (k.pl i p x h1 h2).2 (by simp[plc])⟩,k.dF,k.dD,k.hm,k.h5,k.h4,k.h6⟩
end
theorem qlQ{S:St}{sz bytes:Nat}{y:V}{b:Bool}(hy:fits sz [y]=true)(hr:bytes≤2 ^ 47):Jz S sz bytes (.sl true []) (.sl b [y])=some (.arr S.length 0 1 1,S++[.arr [y] sz 1]):=by
 unfold Jz;rw[ZX];have hc:true=true∧fits sz [y]=true∧(([]:List V).all fun v=>v.size==sz)=true∧(([]:List V).length+[y].length) * bytes≤2 ^ 47:=⟨rfl,hy,rfl,by simpa using hr⟩;show (if ([y]:List V).isEmpty=true then _ else _)=_;rw[if_neg (by simp),if_pos hc];simp
theorem qlT{S:St}{sz bytes l wr:Nat}{xs:List V}{y:V}{b:Bool}(h3:S[l]?=some (.arr xs sz wr))(hy:fits sz [y]=true)(hr:(xs.length+1) * bytes≤2 ^ 47):Jz S sz bytes (.arr l 0 xs.length xs.length) (.sl b [y])=some (.arr l 0 (xs.length+1) (xs.length+1),S.set l (.arr (xs++[y]) sz wr)):=by
 have hc:0=0∧xs.length=xs.length∧xs.length=xs.length∧sz=sz∧fits sz [y]=true∧(xs.length+[y].length) * bytes≤2 ^ 47:=⟨rfl,rfl,rfl,rfl,hy,hr⟩;unfold Jz;rw[ZX];show (match S[l]? with|_=>_)=_;rw[h3];show (if _ then _ else _)=_;rw[if_pos hc];rfl
theorem qlj{m c4 c5 c6:Nat}{h:List Bz×List Bz}{v:V}{ps:List Nat}{F D:Np}{U:St}(k:Co m c4 c5 c6 h v ps F D U)(p:Nat)(x:Bz)(hp:U[p]?=some (plc x h.2.length x))(nF:¬ F p)(hn:h.2.length≤100000):
  qt prog 108 [.ptr p 0 0 1,.ptr c5 0 0 1] U (fun _ U'=>∃v' F',Co m c4 c5 c6 (h.1,h.2++[x]) v' (ps++[p]) F' (fun l=>D l∨l=p) U'∧U'[p]?=some (plc x h.2.length x)∧Kp (fun l=>l=p∨F l) U U'∧grow U F F'):=by
 refine qt.ib func108 ok108 ?_;have hpn:=k.pn;obtain ⟨bs,ck,hst,hm⟩:=k.fm;have fin:∀(U1:St) (a wr:Nat),U1[a]?=some (.arr ((ps++[p]).map ptV) 1 wr)→wr≤ps.length+1→(F a∨U.length≤a)→a≠c5→a≠m→U.length≤U1.length→(∀l o,U[l]?=some o→l≠a→U1[l]?=some o)→
   ∃v' F',Co m c4 c5 c6 (h.1,h.2++[x]) v' (ps++[p]) F' (fun l=>D l∨l=p) (U1.set c5 (.arr [.arr a 0 (ps.length+1) (ps.length+1)] 1 1))∧(U1.set c5 (.arr [.arr a 0 (ps.length+1) (ps.length+1)] 1 1))[p]?=some (plc x h.2.length x)∧Kp (fun l=>l=p∨F l) U (U1.set c5 (.arr [.arr a 0 (ps.length+1) (ps.length+1)] 1 1))∧grow U F F':=by
  intro U1 a wr h2 h3 h4 h5 h5' h6' h6
  have q:∀{l o},U[l]?=some o→l≠c5→l≠a→(U1.set c5 (.arr [.arr a 0 (ps.length+1) (ps.length+1)] 1 1))[l]?=some o:=fun {l o} ho n1 n2=>by
   rw[qqX (Ne.symm n1)];exact h6 l o ho n2
  have nq:∀{l o},U[l]?=some o→¬ F l→(U1.set c5 (.arr [.arr a 0 (ps.length+1) (ps.length+1)] 1 1))[l]?=some o:=fun {l o} ho hF=>
   q ho (by rintro rfl;exact hF k.h5) (by rintro rfl;exact h4.elim hF fun hh=>by have:=glt ho;omega)
  have nDF:∀{l},D l→¬ F l:=fun hD hF=>by obtain ⟨_,_,_,h⟩:=k.gF hF;exact h hD
  refine ⟨.arr a 0 (ps.length+1) (ps.length+1),fun l=>l=m∨l=c5∨l=a,⟨nq k.f4 (nDF k.h4),⟨bs,ck,hst,q hm ?_ (Ne.symm h5')⟩,qqV ?_,nq k.f6 (nDF k.h6),.inr ⟨a,wr,by simp,?_,by simpa using h3,.inr (.inr rfl),h5⟩,by simp[hpn],fun i p' x' g1 g2=>?_,fun l hl=>?_,fun l hl=>?_,.inl rfl,.inr (.inl rfl),.inl k.h4,.inl k.h6⟩,nq hp nF,⟨by simpa using h6',fun l hl hn=>?_⟩,fun l hl=>?_⟩
  ·refine YZ hm k.f5 (by simp)
  ·have:=glt k.f5;omega
  ·rw[qqX (Ne.symm h5)];exact h2
  ·by_cases hi:i<ps.length
   ·rw[qqW hi] at g1;rw[qqW (by omega)] at g2;obtain ⟨e1,e2⟩:=k.pl i p' x' g1 g2;exact ⟨.inl e1,nq e2 (nDF e1)⟩
   ·have h1:=(qqT.1 g1).1;rw[qrd,List.length_singleton] at h1;have:i=ps.length:=by omega
    subst this;simp at g1;rw[hpn] at g2;simp at g2;subst g1 g2;have e:=nq hp nF;rw[←hpn] at e;exact ⟨.inr rfl,e⟩
  ·exact hl.imp id fun hl=>hl.imp id fun hl=>⟨ps.length+1,by rw[hl]⟩
  ·rcases hl with hl|rfl
   ·exact (k.dD l hl).imp id fun hl=>hl.imp id fun hl=>by simp[hl]
   ·exact .inr (.inr (by simp))
  ·have:∃o,U[l]?=some o:=⟨_,qqZ hl⟩;obtain ⟨o,ho⟩:=this;rw[ho];exact nq ho fun hf=>hn (.inr hf)
  ·rcases hl with rfl|rfl|rfl
   ·exact .inl k.hm
   ·exact .inl k.h5
   ·exact h4
 have hf:=k.f5;have hft:fits 1 [V.ptr p 0 0 1]=true:=rfl;rcases k.gr with ⟨rfl,rfl⟩|⟨a,wr,rfl,ha,hw,hF,hne⟩
 ·have happ:=qlQ (S:=U) (sz:=1) (bytes:=8) (y:=.ptr p 0 0 1) (b:=true) rfl (by omega);have hs:(U++[Ob.arr [.ptr p 0 0 1] 1 1])[c5]?=some (.arr [.sl true []] 1 1):=gp hf;simp[c108,ldS,hf,hft,evX,happ,stS,hs];refine qA rfl ?_;exact (fin (U++[Ob.arr [ptV p] 1 1]) U.length 1 (by simp) (by simp) (.inr (qqY _)) (by have:=glt hf;omega) (by have:=glt hm;omega) (by simp) fun l o ho _=>gp ho)
 ·have happ:=qlT (S:=U) (sz:=1) (bytes:=8) (y:=.ptr p 0 0 1) (b:=true) ha rfl (by rw[qq2];omega);simp at happ;have hs:(U.set a (Ob.arr (ps.map ptV++[.ptr p 0 0 1]) 1 wr))[c5]?=some (.arr [.arr a 0 ps.length ps.length] 1 1):=by rw[qqX hne];exact hf
  simp[c108,ldS,hf,hft,evX,happ,stS,hs];refine qA rfl ?_;exact (fin (U.set a (Ob.arr (ps.map ptV++[.ptr p 0 0 1]) 1 wr)) a wr (by rw[qqV (glt ha),qrg];rfl) (by omega) (.inl hF) hne (YZ ha hm (by simp)) (by simp) fun l o ho hl=>by rw[qqX (Ne.symm hl)];exact ho)
section
variable {m c4 c5 c6:Nat} {h:List Bz×List Bz} {v:V} {ps:List Nat} {F D:Np} {U:St}
theorem Co.lt(k:Co m c4 c5 c6 h v ps F D U){l:Nat}(hl:F l∨D l):l<U.length:=by
 rcases hl with hl|hl
 ·obtain ⟨_,h,_⟩:=k.gF hl;exact glt h
 ·obtain ⟨_,h,_⟩:=k.gD hl;exact glt h
theorem Co.push(k:Co m c4 c5 c6 h v ps F D U)(os:List Ob):Co m c4 c5 c6 h v ps F D (U++os):=k.fr (M:=fun _=>False) ((Kp.refl _ _).push _) fun _ h=>h.elim
theorem Co.set(k:Co m c4 c5 c6 h v ps F D U){l:Nat}(o:Ob)(hF:¬ F l)(hD:¬ D l):Co m c4 c5 c6 h v ps F D (U.set l o):=k.fr (M:=fun x=>x=l) ((Kp.refl _ _).set _ (.inl rfl)) fun x hx _=>by rw[hx];exact ⟨hF,hD⟩
end
theorem qfZ{m c4 c5 c6:Nat}{h:List Bz×List Bz}{v:V}{ps:List Nat}{F D:Np}{U:St}(k:Co m c4 c5 c6 h v ps F D U){X:Np}{w:V}{ts:List Sct}(hsc:ScR coP X U w ts)(x:Bz):
  qt prog 107 [.str x,w,.ptr c4 0 0 1] U (fun _ U'=>Co m c4 c5 c6 (coU h x (Scx ts)) v ps F D U'∧Kp F U U'):=by
 refine qt.ib func107 ok107 ?_;simp[c107];refine qg (Ys hsc x) ?_;have hat:=ZV ts x;unfold coU;rw[hat];have h4:=k.f4;obtain ⟨bs,ck,hst,hm⟩:=k.fm
 cases hf:fnd ts x with
 | some q=>
  simp[ZT,hf,zT,eqV];exact qA rfl ⟨k,Kp.refl _ _⟩
 | none=>
  simp[ZT,hf,zT,eqV,ldS,h4];have hft:fits 1 [V.str x]=true:=rfl;simp[hft];refine qi (qe7 true [x] _ bs ck m U (by simp) hm) ?_;rintro r U' ⟨bs',ck',hst',rfl⟩;simp;have:=k.use x (hst' hst);rw[qrD] at this;exact qA rfl ⟨this,(Kp.refl _ _).set _ (.inl k.hm)⟩
theorem qkM{m c4 c5 c6:Nat}{h:List Bz×List Bz}{v:V}{ps:List Nat}{F D:Np}{U:St}(k:Co m c4 c5 c6 h v ps F D U){X:Np}{w:V}{ts:List Sct}(hsc:ScR coP X U w ts)(x:Ex)(tg:Bool):
  qt prog 109 [x.v,w,.bool tg,.ptr c6 0 0 1] U (fun r U'=>r=x.v∧Co m c4 c5 c6 (coU h x.text (Scx ts)) v ps F D U'∧Kp F U U'):=by
 refine qt.ib func109 ok109 ?_;simp[c109,qG];obtain ⟨U1,hU1⟩:∃U1:St,U1=U++[.arr [x.v] 7 1,.arr [.agg [.int .i64 0,.int .i64 0,.int .i64 0,.int .i64 0,.int .i64 0,.str ⟨⟨[]⟩⟩,.sl true []]] 7 1]:=⟨_,rfl⟩;rw[←hU1];have l1:U1.length=U.length+2:=by rw[hU1];simp
 have b0:U1[U.length]?=some (.arr [x.v] 7 1):=by rw[hU1];simp
 have b1:U1[U.length+1]?=some (.arr [.agg [.int .i64 0,.int .i64 0,.int .i64 0,.int .i64 0,.int .i64 0,.str ⟨⟨[]⟩⟩,.sl true []]] 7 1):=by rw[hU1,qqU (by omega)];simp
 have k1:Co m c4 c5 c6 h v ps F D U1:=by rw[hU1];exact k.push _
 have s1:ScR coP X U1 w ts:=by rw[hU1];exact hsc.push _
 have kp1:Kp F U U1:=by rw[hU1];exact (Kp.refl _ _).push _
 clear hU1;have h6:=k1.f6;have nF:∀j,¬ F (U.length+j):=fun j hf=>by have:=k.lt (.inl hf);omega
 have nD:∀j,¬ D (U.length+j):=fun j hf=>by have:=k.lt (.inr hf);omega
 simp[ldS,h6,b0];refine qi (qfZ k1 s1 x.text) ?_;rintro r U2 ⟨k2,kp2⟩;have c0:=kp2.at b0 (nF 0);have c1:=kp2.at b1 (nF 1);simp[ldS,c0,stS,c1,qh];have hz:(U2.set (U.length+1) (.arr [x.v] 7 1))[U.length+1]?=some (.arr [x.v] 7 1):=qqV (glt c1);exact qf (vs:=[x.v]) (by simp[rvs,ldS,hz]) ⟨rfl,k2.set _ (nF 1) (nD 1),(kp1.trans kp2).set _ (.inr (by omega))⟩
theorem ql8{m c4 c5 c6:Nat}{h:List Bz×List Bz}{v:V}{ps:List Nat}{F D:Np}{U:St}(k:Co m c4 c5 c6 h v ps F D U){X:Np}{w:V}{ts:List Sct}(hsc:ScR coP X U w ts)(x:Bz):
  qt prog 110 [.str x,w,.ptr c6 0 0 1] U (fun r U'=>r=.str x∧Co m c4 c5 c6 (coU h x (Scx ts)) v ps F D U'∧Kp F U U'):=by
 refine qt.ib func110 ok110 ?_;have h6:=k.f6;simp[c110,ldS,h6];refine qi (qfZ k hsc x) ?_;rintro r U2 ⟨k2,kp2⟩;simp;exact qf rfl ⟨rfl,k2,kp2⟩
theorem Co.real{m c4 c5 c6:Nat}{h:List Bz×List Bz}{v:V}{ps:List Nat}{F D:Np}{S:St}(k:Co m c4 c5 c6 h v ps F D S)(h':List Bz×List Bz):∃F' D' U v' ps',Co m c4 c5 c6 h' v' ps' F' D' U∧Kp F S U∧grow S F F'∧grow S D D':=by
 obtain ⟨bs,ck,hst,hm⟩:=k.fm;obtain ⟨n,hn⟩:∃n,n=h'.2.length:=⟨_,rfl⟩;obtain ⟨ps',hps⟩:∃ps':List Nat,ps'=(List.range n).map (S.length+·):=⟨_,rfl⟩;have lps:ps'.length=n:=by rw[hps];simp
 obtain ⟨os,hos⟩:∃os:List Ob,os=(h'.2.zipIdx.map fun e=>plc e.1 e.2 e.1)++[.arr (ps'.map ptV) 1 0]:=⟨_,rfl⟩;have los:os.length=n+1:=by rw[hos,hn];simp
 obtain ⟨U,hU⟩:∃U:St,U=((S++os).set m (.map ((h'.1.foldl yR []).map kv) [] 0)).set c5 (.arr [.arr (S.length+n) 0 n n] 1 1):=⟨_,rfl⟩;have lm:=glt hm;have l5:=glt k.f5;have nDF:∀{l},D l→¬ F l:=fun hD hF=>by obtain ⟨_,_,_,h⟩:=k.gF hF;exact h hD
 have q:∀{l o},S[l]?=some o→¬ F l→U[l]?=some o:=fun {l o} ho hf=>by
  rw[hU,qqX (by rintro rfl;exact hf k.h5),qqX (by rintro rfl;exact hf k.hm)];rw[qqW (glt ho)];exact ho
 have new:∀j o,os[j]?=some o→U[S.length+j]?=some o:=fun j o ho=>by
  rw[hU,qqX (by omega),qqX (by omega),qqU (by omega),qsi];exact ho
 refine ⟨fun l=>l=m∨l=c5∨l=S.length+n,fun l=>l=c4∨l=c6∨l∈ps',U,.arr (S.length+n) 0 n n,ps',⟨q k.f4 (nDF k.h4),⟨[],0,Za.nil,?_⟩,?_,q k.f6 (nDF k.h6),.inr ⟨S.length+n,0,by rw[lps],new n _ ?_,qrA _,.inr (.inr rfl),by omega⟩,by rw[lps,hn],fun i p x h1 h2=>⟨.inr (.inr (qq1 h1)),?_⟩,fun l hl=>hl.imp id fun hl=>hl.imp id fun hl=>⟨n,by rw[hl]⟩,fun l hl=>hl,.inl rfl,.inr (.inl rfl),.inl rfl,.inr (.inl rfl)⟩,⟨?_,fun l hl hf=>?_⟩,fun l hl=>?_,fun l hl=>?_⟩
 ·rw[hU,qqX (YZ k.f5 hm (by simp)),qqV (by simp;omega)]
 ·rw[hU,qqV (by simp;omega)]
 ·rw[hos,qqU (by simp[hn])];simp[hn]
 ·rw[hps] at h1;simp at h1;obtain ⟨j,hj,rfl⟩:=h1;obtain ⟨h3,h4⟩:=qqT.1 hj;rw[List.getElem_range] at h4;rw[List.length_range] at h3;subst h4;refine new i _ ?_;rw[hos,qqW (by simp;omega)];simp[h2]
 ·rw[hU];simp
 ·obtain ⟨o,ho⟩:∃o,S[l]?=some o:=⟨_,qqZ hl⟩;rw[ho];exact q ho hf
 ·rcases hl with rfl|rfl|rfl
  ·exact .inl k.hm
  ·exact .inl k.h5
  ·exact .inr (by omega)
 ·rcases hl with rfl|rfl|hl
  ·exact .inl k.h4
  ·exact .inl k.h6
  ·rw[hps] at hl;simp at hl;omega
theorem qn5(m c4 c5 c6:Nat):(coC m c4 c5 c6).Ok where
 lim:=qqY _
 lt:=fun ⟨v,ps,k⟩ l hl=>k.lt hl
 fr:=fun ⟨v,ps,k⟩ hk hM=>⟨v,ps,k.fr hk hM⟩
 lp:=fun ⟨v,ps,k⟩ l o ho=>⟨fun hf=>by obtain ⟨_,h1,h2,_⟩:=k.gF hf;rw[ho] at h1;cases h1;exact h2 _ rfl,fun hf=>by obtain ⟨_,h1,h2⟩:=k.gD hf;rw[ho] at h1;cases h1;exact h2 _ rfl⟩
 ce x hc:=by
  show (_++[x]).length=_+1;rw[qrd];exact congrArg (·+1) hc
 cm x sc tg hc:=by
  show (coU _ x.text sc).2.length=_;unfold coU;split <;> exact hc
 cc x sc hc:=by
  show (coU _ x sc).2.length=_;unfold coU;split <;> exact hc
 real:=fun {h F D S} ⟨v,ps,k⟩ h'=>by
  obtain ⟨F',D',U,v',ps',a,b,c,d⟩:=k.real h';exact ⟨F',D',U,⟨v',ps',a⟩,b,c,d⟩
 en:=.inr ⟨108,[.ptr c5 0 0 1],rfl,fun U p k x h F D hp hF hD hk hc ⟨v,ps,kk⟩=>by
  have hc:h.2.length=k:=hc;subst hc;refine qt.mono (qlj kk p x hp hF (Nat.le_of_lt_succ hk)) fun r U' ⟨v',F',a,b,c,d⟩=>?_
  exact ⟨F',fun l=>D l∨l=p,⟨v',ps++[p],a⟩,b,c,d,fun l hl=>hl.imp id .inl⟩⟩
 nm:=⟨109,[.ptr c6 0 0 1],rfl,fun U x w ts tg w' h F D hsc ⟨v,ps,k⟩=>qt.mono (qkM k hsc x tg) fun r U' ⟨a,b,c⟩=>⟨a,F,D,⟨v,ps,b⟩,c,grow.refl _ _,grow.refl _ _⟩⟩
 cl:=⟨110,[.ptr c6 0 0 1],rfl,fun U x w ts w' h F D hsc ⟨v,ps,k⟩=>qt.mono (ql8 k hsc x) fun r U' ⟨a,b,c⟩=>⟨a,F,D,⟨v,ps,b⟩,c,grow.refl _ _,grow.refl _ _⟩⟩
def qqI(s:Sm)(S:St)(r:V)(U:St):Prop:=∃(m c4 c5 c6:Nat) (v:V) (ps:List Nat) (F D:Np),r=.tup [.map m,v]∧Co m c4 c5 c6 (s.wholeH coP ([],[])) v ps F D U∧Kp (fun _=>False) S U∧(∀l,F l∨D l→S.length≤l)
theorem YC(y:V):V.upd .nilmap 0 1 y=if y.size=1∧y.cells.all V.flat=true then some y else none:=rfl
theorem qcu(s:Sm)(hs:s.ok)(hsz:(Pa.st s).size≤4000)(hn:Sm.nb1 [s]≤100000)(S:St):qt prog 58 [s.v] S (fun r U=>qqI s S r U):=by
 refine qt.ib func58 ok58 ?_;simp[c58,qG,ldS,stS,qh,qF,qB,evX,YC,Zq];obtain ⟨B,hB⟩:∃B,B=S.length:=⟨_,rfl⟩;obtain ⟨S1,hS1⟩:∃S1:St,S1=S++[.arr [s.v] 8 1,.map [] [] 0,.arr [.map (B+1)] 1 1,.arr [.sl true []] 1 1,.arr [.fn (.func 107) [] [.ptr (B+2) 0 0 1]] 1 1,.arr [.agg [.int .i64 0,.fn (.func 108) [] [.ptr (B+3) 0 0 1],.fn (.func 109) [] [.ptr (B+4) 0 0 1],.fn (.func 110) [] [.ptr (B+4) 0 0 1]]] 4 1]:=⟨_,rfl⟩;rw[←hB,←hS1];have l1:S1.length=B+6:=by rw[hS1,hB];simp
 have g:∀j o,[Ob.arr [s.v] 8 1,.map [] [] 0,.arr [.map (B+1)] 1 1,.arr [.sl true []] 1 1,.arr [.fn (.func 107) [] [.ptr (B+2) 0 0 1]] 1 1,.arr [.agg [.int .i64 0,.fn (.func 108) [] [.ptr (B+3) 0 0 1],.fn (.func 109) [] [.ptr (B+4) 0 0 1],.fn (.func 110) [] [.ptr (B+4) 0 0 1]]] 4 1][j]?=some o→S1[B+j]?=some o:=fun j o ho=>by
  rw[hS1,qqU (by omega),hB,qsi,←hB];exact ho
 have kS:Kp (fun _=>False) S S1:=by rw[hS1];exact (Kp.refl _ _).push _
 have k1:Co (B+1) (B+2) (B+3) (B+4) ([],[]) (.sl true []) [] (fun l=>l=B+1∨l=B+3) (fun l=>l=B+2∨l=B+4) S1:=
  ⟨g 2 _ rfl,⟨[],0,Za.nil,g 1 _ rfl⟩,g 3 _ rfl,g 4 _ rfl,.inl ⟨rfl,rfl⟩,rfl,fun i p x h=>by simp at h,fun l hl=>hl.imp id .inl,fun l hl=>hl.imp id .inl,.inl rfl,.inr rfl,.inl rfl,.inr rfl⟩
 have hw:Wk (coC (B+1) (B+2) (B+3) (B+4)) (B+5) 0 ([],[]) (fun l=>l=B+1∨l=B+3) (fun l=>l=B+2∨l=B+4) S1:=⟨g 5 _ rfl,⟨_,_,k1⟩,by omega,by omega,rfl⟩;clear g hS1 k1;refine qi (qa5 (coC (B+1) (B+2) (B+3) (B+4)) (qn5 _ _ _ _) (B+5) s hs hsz ([],[]) _ _ S1 hw (Nat.le_succ_of_le hn)) ?_;rintro r U ⟨rfl,F2,D2,k2,s2⟩;obtain ⟨v,ps,kk⟩:=k2.st;have h4:=kk.f4;have h5:=kk.f5;have hvc:v.cells=[v]:=by rcases kk.gr with ⟨_,rfl⟩|⟨a,wr,rfl,_⟩ <;> rfl
 simp[ldS,h4,h5,hvc,QZ,zW,yp];refine qf rfl ⟨_,_,_,_,_,_,_,_,rfl,kk,⟨qrt kS.len s2.k.len,fun l hl hn=>?_⟩,fun l hl=>?_⟩
 ·rw[s2.k.get l (by omega) (by rintro (hh|hh|hh) <;> omega)];exact kS.get l hl hn
 ·rcases hl with hl|hl
  ·rcases s2.gF l hl with (h|h)|h <;> omega
  ·rcases s2.gD l hl with (h|h)|h <;> omega
mutual
def Ex.occ:Ex→List Bz
 | .mk k _ _ _ _ t a=>Ex.occl a++(if Ex.named k then [t] else [])
def Ex.occl:List Ex→List Bz
 | []=>[]
 | x::l=>Ex.occ x++Ex.occl l
end
def El.occl:List El→List Bz
 | []=>[]
 | x::l=>Ex.occl x.exps++El.occl l
mutual
def Sm.occ:Sm→List Bz
 | .mk _ k t g e h d b=>if k=7 then De.occl d++Sm.occl b else if k=8 then Sm.occl b else Ex.occl g++Ex.occl e++El.occl h++Sm.occl b++(if k=6 then [t] else [])
def De.occ:De→List Bz
 | .mk k _ _ _ e _ b=>if k=4 then Sm.occl b else Ex.occl e
def De.occl:List De→List Bz
 | []=>[]
 | x::l=>De.occ x++De.occl l
def Sm.occl:List Sm→List Bz
 | []=>[]
 | x::l=>Sm.occ x++Sm.occl l
end
section
variable {f:Nat→Bz} {nm:Bz→Bool} (hf:∀k,nm (f k)=false)
def ym(h:coP.H):List Bz:=Prod.fst (α:=List Bz) (β:=List Bz) h
theorem zB(s:Sco):∀h:coP.H,ym (enters coP h s)=ym h:=by
 induction s with
 | nil=>intro h;rfl
 | cons e s ih=>intro h;exact ih _
include hf
theorem qhn(h:coP.H)(sc:Scs)(t:Bz)(ht:nm t=true):ym (coP.clH h t sc)=ym h++[zH f sc t].filter nm:=by
 show Prod.fst (coU h t sc)=_;unfold coU zH ym
 cases sc.at t with
 | none=>simp[ht]
 | some k=>simp[hf]
omit hf in
theorem qjx(sc:Scs)(tg:Bool)(h:coP.H)(k o n m e:Int)(t:Bz)(a:List Ex):coP.nmS sc tg h (.mk k o n m e t a)=if Ex.named k=true then coP.clH h t sc else h:=rfl
omit hf in
theorem qjl(sc:Scs)(k:Int)(h:coP.H)(t:Bz):coP.clS sc k h t=if k=6 then coP.clH h t sc else h:=rfl
def coZ:coP.H:=(([],[]):List Bz×List Bz)
mutual
theorem Ex.fr(sc:Scs)(tg:Bool):∀(x:Ex) (h:coP.H),(Pa.ex x).valid nm=true→ym (Ex.hs coP sc tg h x)=ym h++(Ex.occ (x.w f sc)).filter nm
 | .mk k o n m e t a,h,v=>by
  have ha:=Ex.frl sc false a h (Ex.valid_args v);rw[Ex.hs,Ex.w,Ex.occ,qsp,←qrc,←ha];rw[qjx];by_cases hk:Ex.named k=true
  ·rw[if_pos hk,if_pos hk,if_pos hk];exact qhn hf _ sc t (Ex.valid_text v hk)
  ·rw[if_neg hk,if_neg hk,List.filter_nil,qr8]
theorem Ex.frl(sc:Scs)(tg:Bool):∀(l:List Ex) (h:coP.H),(∀x,x∈l→(Pa.ex x).valid nm=true)→ym (Ex.hsl coP sc tg h l)=ym h++(Ex.occl (Ex.wl f sc l)).filter nm
 | [],h,_=>by simp[Ex.hsl,Ex.wl,Ex.occl]
 | x::l,h,v=>by
  rw[Ex.hsl,Ex.wl,Ex.occl,Ex.frl sc tg l _ fun y hy=>v y (by simp[hy])];have:=Ex.fr sc tg x h (v x (by simp));rw[qsp,←qrc,←this]
end
theorem El.frl(sc:Scs):∀(l:List El) (h:coP.H),(∀x,x∈l→(Pa.el x).valid nm=true)→ym (El.hsl coP sc h l)=ym h++(El.occl (l.map (El.w f sc))).filter nm
 | [],h,_=>by simp[El.hsl,El.occl]
 | x::l,h,v=>by
  have h1:=Ex.frl hf sc false x.exps h (fun y hy=>(Pa.valid_iff.1 (v x (by simp))).2 _ (by simp only[Pa.kids];exact qrG hy));have h2:=El.frl sc l (Ex.hsl coP sc false h x.exps) fun y hy=>v y (by simp[hy])
  show ym (El.hsl coP sc (Ex.hsl coP sc false h x.exps) l)=_;rw[h2,h1,qq8,El.occl,qsp,←qrc];unfold El.w;rw[←Ex.wl_map]
mutual
theorem Sm.fr:∀(s:Sm) (sc:Scs) (n:Nat) (h:coP.H),(Pa.st s).valid nm=true→ym (Sm.hs coP sc n h s)=ym h++(s.w f sc n).occ.filter nm
 | .mk l k t g e el d b,sc,n,h,v=>by
  obtain ⟨v7,v8,v9⟩:=Sm.valid_block v;have vd:=Sm.valid_decls v;have vb:=Sm.valid_body v;have vg:=Sm.valid_targets v;have ve:=Sm.valid_exps v;have vl:=Sm.valid_elems v;have vt:=Sm.valid_text v;simp only[Sm.decls,Sm.body,Sm.targets,Sm.exps,Sm.elems,Sm.kind,Sm.text] at vd vb vg ve vl vt;rw[Sm.hs,Sm.w];by_cases h7:k=7
  ·obtain ⟨rfl,rfl,rfl⟩:=v7 h7;rw[if_pos h7,if_pos h7,Sm.occ,if_pos h7,qsp,←qrc];rw[Sm.frl b _ _ _ vb,De.frl d _ _ _ _ vd,zB];rfl
  ·rw[if_neg h7,if_neg h7];by_cases h8:k=8
   ·obtain ⟨rfl,rfl,rfl,rfl⟩:=v8 h8;rw[if_pos h8,if_pos h8,Sm.occ,if_neg h7,if_pos h8];rw[Sm.frl b _ _ _ vb,zB];rfl
   ·obtain rfl:=v9 h7 h8;rw[if_neg h8,if_neg h8,Sm.occ,if_neg h7,if_neg h8];have e1:=Ex.frl hf sc true g h vg;have e2:=Ex.frl hf sc false e (Ex.hsl coP sc true h g) ve;have e3:=El.frl hf sc el (Ex.hsl coP sc false (Ex.hsl coP sc true h g) e) vl;have e4:=Sm.fr1 b sc n (El.hsl coP sc (Ex.hsl coP sc false (Ex.hsl coP sc true h g) e) el) vb;rw[e3,e2,e1] at e4;simp only[qsp];rw[qjl];by_cases h6:k=6
    ·rw[if_pos h6,if_pos h6,if_pos h6];have e5:=qhn hf (Sm.hs1 coP sc n (El.hsl coP sc (Ex.hsl coP sc false (Ex.hsl coP sc true h g) e) el) b) sc t (vt h6);refine Eq.trans e5 ?_;rw[e4];simp only[qrc]
    ·rw[if_neg h6,if_neg h6];refine Eq.trans e4 ?_;simp only[qrc,List.filter_nil,qr8]
theorem De.fr:∀(s:De) (own sc:Scs) (n:Nat) (h:coP.H),(Pa.de s).valid nm=true→ym (De.hs coP own sc n h s)=ym h++(s.w f own sc n).occ.filter nm
 | .mk k o t ns e fo b,own,sc,n,h,v=>by
  obtain ⟨v4,v5⟩:=De.valid_proc v;have vb:=De.valid_body v;have ve:=De.valid_exps v;simp only[De.body,De.exps] at vb ve;rw[De.hs,De.w];by_cases h4:k=4
  ·obtain rfl:=v4 h4;rw[if_pos h4,if_pos h4,De.occ,if_pos h4,Sm.fr1 b _ _ _ vb,zB];rfl
  ·obtain ⟨rfl,rfl⟩:=v5 h4;rw[if_neg h4,if_neg h4,De.occ,if_neg h4];exact Ex.frl hf _ _ e h ve
theorem De.frl:∀(l:List De) (own sc:Scs) (n:Nat) (h:coP.H),(∀x,x∈l→(Pa.de x).valid nm=true)→ym (De.hsl coP own sc n h l)=ym h++(De.occl (De.wl f own sc n l)).filter nm
 | [],_,_,_,h,_=>by simp[De.hsl,De.wl,De.occl]
 | x::l,own,sc,n,h,v=>by
  rw[De.hsl,De.wl,De.occl,De.frl l own sc _ _ fun y hy=>v y (by simp[hy]),De.fr x own sc n h (v x (by simp)),qsp,qrc]
theorem Sm.frl:∀(l:List Sm) (sc:Scs) (n:Nat) (h:coP.H),(∀x,x∈l→(Pa.st x).valid nm=true)→ym (Sm.hsl coP sc n h l)=ym h++(Sm.occl (Sm.wl f sc n l)).filter nm
 | [],_,_,h,_=>by simp[Sm.hsl,Sm.wl,Sm.occl]
 | x::l,sc,n,h,v=>by
  rw[Sm.hsl,Sm.wl,Sm.occl,Sm.frl l sc _ _ fun y hy=>v y (by simp[hy]),Sm.fr x sc n h (v x (by simp)),qsp,qrc]
theorem Sm.fr1:∀(l:List Sm) (sc:Scs) (n:Nat) (h:coP.H),(∀x,x∈l→(Pa.st x).valid nm=true)→ym (Sm.hs1 coP sc n h l)=ym h++(Sm.occl (Sm.w1 f sc n l)).filter nm
 | [],_,_,h,_=>by simp[Sm.hs1,Sm.w1,Sm.occl]
 | x::l,sc,n,h,v=>by
  rw[Sm.hs1,Sm.w1,Sm.occl,Sm.fr1 l sc _ _ fun y hy=>v y (by simp[hy]),Sm.fr x _ _ _ (v x (by simp)),zB,qsp,qrc]
end
theorem Sm.free_occ(s:Sm)(v:(Pa.st s).valid nm=true):ym (s.wholeH coP coZ)=(s.whole f).occ.filter nm:=by
 have:=Sm.fr hf s [qd s.labels 0] (qd s.labels 0).length (enters coP coZ (qd s.labels 0)) v;refine this.trans ?_;show ym (enters coP coZ (qd s.labels 0))++_=_;rw[zB];rfl
end
section
variable {lk:Lk} {g:Nat→Bz} (hg:∀k,lk (g k)=none)
include hg
theorem qhC(sc:Scs)(t:Bz):sbn lk (zH g sc t)=match sc.at t with
 | some k=>g k
 | none=>sbn lk t:=by
 unfold zH
 cases sc.at t with
 | some k=>unfold sbn;simp only[hg]
 | none=>rfl
theorem QM(sc:Scs)(t:Bz):qaK lk (zH g sc t)=qaM lk sc t:=by
 unfold zH qaM
 cases sc.at t with
 | some k=>unfold qaK;simp only[hg]
 | none=>rfl
theorem qbq(sc:Scs)(tg:Bool)(t:Bz):qeK lk tg (zH g sc t)=qeN lk sc tg t:=by
 unfold zH qeN
 cases sc.at t with
 | some k=>unfold qeK;simp only[hg]
 | none=>rfl
def sbb(h:(sbP lk).H):Bool:=h
variable {nm:Bz→Bool}
omit hg in
theorem Zj(s:Sco):∀h:(sbP lk).H,enters (sbP lk) h s=h:=by
 induction s with
 | nil=>intro h;rfl
 | cons e s ih=>intro h;exact ih _
mutual
theorem Ex.sb_flag(sc:Scs)(tg:Bool):∀(x:Ex) (h:(sbP lk).H),sbb (Ex.hs (sbP lk) sc tg h x)=(sbb h || (x.w g sc).sbad lk tg)
 | .mk k o n m e t a,h=>by
  have h1:=Ex.sb_flagl sc false a h
  have h2:sbb (Ex.hs (sbP lk) sc tg h (.mk k o n m e t a))=if Ex.named k=true then sbb (Ex.hsl (sbP lk) sc false h a) || (if k=6 then qeN lk sc tg t else qaM lk sc t) else sbb (Ex.hsl (sbP lk) sc false h a):=by
   rw[Ex.hs];unfold Pw.nmS;show sbb (if Ex.named k=true then _ else _)=_;split <;> rfl
  rw[h2,h1,Ex.w,Ex.sbad];by_cases h6:k=6
  ·have hn:Ex.named k=true:=by rw[h6];rfl
   rw[if_pos hn,if_pos h6,if_pos h6,if_pos hn,qbq hg,qsB]
  ·rw[if_neg h6,if_neg h6];by_cases hn:Ex.named k=true
   ·rw[if_pos hn,if_pos hn,QM hg,hn,qsc,qsB]
   ·rw[if_neg hn];have:Ex.named k=false:=by simpa using hn
    rw[this,qsT,qrS]
theorem Ex.sb_flagl(sc:Scs)(tg:Bool):∀(l:List Ex) (h:(sbP lk).H),sbb (Ex.hsl (sbP lk) sc tg h l)=(sbb h || Ex.sbadl lk tg (Ex.wl g sc l))
 | [],h=>by rw[Ex.hsl,Ex.wl,Ex.sbadl,qrS]
 | x::l,h=>by rw[Ex.hsl,Ex.sb_flagl sc tg l,Ex.sb_flag sc tg x,Ex.wl,Ex.sbadl,qsB]
end
theorem El.sb_flagl(sc:Scs):∀(l:List El) (h:(sbP lk).H),sbb (El.hsl (sbP lk) sc h l)=(sbb h || El.sbadl lk (l.map (El.w g sc)))
 | [],h=>by rw[qrY,El.sbadl,qrS];rfl
 | x::l,h=>by
  have h1:=El.sb_flagl sc l (Ex.hsl (sbP lk) sc false h x.exps);show sbb (El.hsl (sbP lk) sc (Ex.hsl (sbP lk) sc false h x.exps) l)=_;rw[h1,Ex.sb_flagl hg,qq8,El.sbadl,qsB];unfold El.w;rw[Ex.wl_map]
omit hg in
theorem qnS(sc:Scs)(k:Int)(h:(sbP lk).H)(t:Bz):sbb ((sbP lk).clS sc k h t)=(sbb h || (decide (k=6) && qaM lk sc t)):=by
 unfold Pw.clS;by_cases h6:k=6
 ·rw[if_pos h6,decide_eq_true h6,qsc];rfl
 ·rw[if_neg h6,decide_eq_false h6,qsT,qrS]
mutual
theorem Sm.sb_flag:∀(s:Sm) (sc:Scs) (n:Nat) (h:(sbP lk).H),(Pa.st s).valid nm=true→sbb (s.hs (sbP lk) sc n h)=(sbb h || (s.w g sc n).sbad lk)
 | .mk l k t gs e hh d b,sc,n,h,v=>by
  obtain ⟨v7,v8,v9⟩:=Sm.valid_block v;have vd:=Sm.valid_decls v;have vb:=Sm.valid_body v;simp only[Sm.decls,Sm.body] at vd vb;rw[Sm.hs,Sm.w];by_cases h7:k=7
  ·obtain ⟨rfl,rfl,rfl⟩:=v7 h7;have h6:¬ k=6:=by omega
   rw[if_pos h7,if_pos h7,Sm.sbad,Sm.sb_flagl b _ _ _ vb,De.sb_flagl d _ _ _ _ vd,Zj,Ex.hsl,decide_eq_false h6];simp[Ex.sbadl,El.sbadl,qsB]
  ·rw[if_neg h7,if_neg h7];by_cases h8:k=8
   ·obtain ⟨rfl,rfl,rfl,rfl⟩:=v8 h8;have h6:¬ k=6:=by omega
    rw[if_pos h8,if_pos h8,Sm.sbad,Sm.sb_flagl b _ _ _ vb,Zj,Ex.hsl,decide_eq_false h6];simp[Ex.sbadl,El.sbadl,De.sbadl]
   ·rw[if_neg h8,if_neg h8,Sm.sbad,qnS,Sm.sb_flag1 b _ _ _ vb,El.sb_flagl hg,Ex.sb_flagl hg,Ex.sb_flagl hg];by_cases h6:k=6
    ·rw[if_pos h6,decide_eq_true h6,QM hg];simp[De.sbadl,qsB]
    ·rw[if_neg h6,decide_eq_false h6];simp[De.sbadl,qsB]
theorem De.sb_flag:∀(s:De) (own sc:Scs) (n:Nat) (h:(sbP lk).H),(Pa.de s).valid nm=true→sbb (s.hs (sbP lk) own sc n h)=(sbb h || (s.w g own sc n).sbad lk)
 | .mk k o t ns e fo b,own,sc,n,h,v=>by
  obtain ⟨v4,v5⟩:=De.valid_proc v;have vb:=De.valid_body v;simp only[De.body] at vb;rw[De.hs,De.w];by_cases h4:k=4
  ·obtain rfl:=v4 h4;rw[if_pos h4,if_pos h4,De.sbad,Sm.sb_flag1 b _ _ _ vb,Zj,Ex.hsl];simp[Ex.sbadl]
  ·rw[if_neg h4,if_neg h4,De.sbad,Ex.sb_flagl hg];simp[Sm.sbadl]
theorem De.sb_flagl:∀(l:List De) (own sc:Scs) (n:Nat) (h:(sbP lk).H),(∀x,x∈l→(Pa.de x).valid nm=true)→sbb (De.hsl (sbP lk) own sc n h l)=(sbb h || De.sbadl lk (De.wl g own sc n l))
 | [],_,_,_,h,_=>by rw[De.hsl,De.wl,De.sbadl,qrS]
 | x::l,own,sc,n,h,v=>by
  rw[De.hsl,De.sb_flagl l own sc _ _ fun y hy=>v y (by simp[hy]),De.sb_flag x own sc n h (v x (by simp)),De.wl,De.sbadl,qsB]
theorem Sm.sb_flagl:∀(l:List Sm) (sc:Scs) (n:Nat) (h:(sbP lk).H),(∀x,x∈l→(Pa.st x).valid nm=true)→sbb (Sm.hsl (sbP lk) sc n h l)=(sbb h || Sm.sbadl lk (Sm.wl g sc n l))
 | [],_,_,h,_=>by rw[Sm.hsl,Sm.wl,Sm.sbadl,qrS]
 | x::l,sc,n,h,v=>by
  rw[Sm.hsl,Sm.sb_flagl l sc _ _ fun y hy=>v y (by simp[hy]),Sm.sb_flag x sc n h (v x (by simp)),Sm.wl,Sm.sbadl,qsB]
theorem Sm.sb_flag1:∀(l:List Sm) (sc:Scs) (n:Nat) (h:(sbP lk).H),(∀x,x∈l→(Pa.st x).valid nm=true)→sbb (Sm.hs1 (sbP lk) sc n h l)=(sbb h || Sm.sbadl lk (Sm.w1 g sc n l))
 | [],_,_,h,_=>by rw[Sm.hs1,Sm.w1,Sm.sbadl,qrS]
 | x::l,sc,n,h,v=>by
  rw[Sm.hs1,Sm.sb_flag1 l sc _ _ fun y hy=>v y (by simp[hy]),Sm.sb_flag x _ _ _ (v x (by simp)),Zj,Sm.w1,Sm.sbadl,qsB]
end
omit hg in
theorem Ex.wl_id{sc:Scs}:∀(l:List Ex),(∀x,x∈l→x.w g sc=x)→Ex.wl g sc l=l
 | [],_=>rfl
 | x::l,h=>by rw[Ex.wl,h x (by simp),Ex.wl_id l fun y hy=>h y (by simp[hy])]
omit hg in
mutual
theorem Ex.w_free{sc:Scs}:∀x:Ex,(∀u,u∈x.occ→sc.at u=none)→x.w g sc=x
 | .mk k o n m e t a,h=>by
  rw[Ex.occ] at h;rw[Ex.w,Ex.wl_free a fun u hu=>h u (qq6 _ hu)];by_cases hn:Ex.named k=true
  ·rw[if_pos hn] at h ⊢;have:=h t (by simp);unfold zH;rw[this]
  ·rw[if_neg hn]
theorem Ex.wl_free{sc:Scs}:∀l:List Ex,(∀u,u∈Ex.occl l→sc.at u=none)→Ex.wl g sc l=l
 | [],_=>rfl
 | x::l,h=>by
  rw[Ex.occl] at h;rw[Ex.wl,Ex.w_free x fun u hu=>h u (qq6 _ hu),Ex.wl_free l fun u hu=>h u (qq9 _ hu)]
end
def Cl(lk:Lk)(e:Oc):Prop:=e.2.at e.1=none→∀y,lk e.1=some y→∀u,u∈y.occ→e.2.at u=none
theorem qnj{sc:Scs}{t:Bz}(hb:qaM lk sc t=false)(hc:Cl lk (t,sc)):zH g sc (sbT lk sc t)=sbn lk (zH g sc t):=by
 rw[qhC hg];unfold sbT qaM at *
 cases hs:sc.at t with
 | some k=>simp only[hs];unfold zH;rw[hs]
 | none=>
  rw[hs] at hb;simp only;unfold qaK at hb;unfold sbn
  cases hy:lk t with
  | none=>simp only;unfold zH;rw[hs]
  | some y=>
   rw[hy] at hb;simp only[decide_not,qsU,decide_eq_true_eq] at hb
   have hu:y.text∈y.occ:=by
    cases y;simp only[Ex.kind] at hb;subst hb;rw[Ex.occ,if_pos (by rfl)];simp[Ex.text]
   have:=hc hs y hy y.text hu;simp only at this;show zH g sc y.text=y.text;unfold zH;rw[this]
mutual
theorem Ex.sb_w(sc:Scs)(tg:Bool):∀(x:Ex),(x.w g sc).sbad lk tg=false→(∀e,e∈x.ev sc→Cl lk e)→(x.wr (sbP lk) sc tg).w g sc=(x.w g sc).sb lk
 | .mk k o n m e t a,hb,he=>by
  rw[Ex.w,Ex.sbad,qq4] at hb;rw[Ex.ev] at he;have h1:=Ex.sb_wl sc false a hb.1 fun x hx=>he x (qq6 _ hx)
  have hb:=hb.2
  have h2:Ex.wr (sbP lk) sc tg (.mk k o n m e t a)=if Ex.named k=true then (if k=6 then sbX lk sc (.mk k o n m e t (Ex.wrl (sbP lk) sc false a)) else .mk k o n m e (sbT lk sc t) (Ex.wrl (sbP lk) sc false a)) else .mk k o n m e t (Ex.wrl (sbP lk) sc false a):=by
   rw[Ex.wr];rfl
  rw[h2,Ex.w];by_cases h6:k=6
  ·have hn:Ex.named k=true:=by rw[h6];rfl
   rw[if_pos hn] at he;have hc:=he (t,sc) (by simp);rw[if_pos hn,if_pos h6,if_pos hn,Ex.sb,if_pos h6];unfold sbX;simp only[Ex.text]
   cases hs:sc.at t with
   | some j=>
    have hr:zH g sc t=g j:=by unfold zH;rw[hs]
    simp only;rw[Ex.w,if_pos hn,hr,hg,h1]
   | none=>
    have hr:zH g sc t=t:=by unfold zH;rw[hs]
    rw[hr]
    cases hy:lk t with
    | none=>
     simp only[Option.getD_none];rw[Ex.w,if_pos hn,hr,h1]
    | some y=>
     simp only[Option.getD_some];exact Ex.w_free y (hc hs y hy)
  ·rw[if_neg h6] at hb;rw[Ex.sb,if_neg h6];by_cases hn:Ex.named k=true
   ·rw[if_pos hn] at he hb;rw[hn,qsc,QM hg] at hb;rw[if_pos hn,if_neg h6,if_pos hn,if_pos hn,Ex.w,if_pos hn,h1,qnj hg hb (he (t,sc) (by simp))]
   ·rw[if_neg hn,if_neg hn,if_neg hn,Ex.w,if_neg hn,h1,if_neg h6]
theorem Ex.sb_wl(sc:Scs)(tg:Bool):∀(l:List Ex),Ex.sbadl lk tg (Ex.wl g sc l)=false→(∀e,e∈Ex.evl sc l→Cl lk e)→Ex.wl g sc (Ex.wrl (sbP lk) sc tg l)=Ex.sbl lk (Ex.wl g sc l)
 | [],_,_=>rfl
 | x::l,hb,he=>by
  rw[Ex.wl,Ex.sbadl,qq4] at hb;rw[Ex.evl] at he;rw[Ex.wrl,Ex.wl,Ex.wl,Ex.sbl,Ex.sb_w sc tg x hb.1 fun e h=>he e (qq6 _ h),Ex.sb_wl sc tg l hb.2 fun e h=>he e (qq9 _ h)]
end
theorem El.sb_wl(sc:Scs):∀(l:List El),El.sbadl lk (l.map (El.w g sc))=false→(∀e,e∈El.evl sc l→Cl lk e)→(l.map (El.wr (sbP lk) sc)).map (El.w g sc)=(l.map (El.w g sc)).map (El.sb lk)
 | [],_,_=>rfl
 | x::l,hb,he=>by
  rw[qq8,El.sbadl,qq4] at hb;rw[El.evl] at he;have hx:(El.w g sc x).exps=Ex.wl g sc x.exps:=by unfold El.w;rw[Ex.wl_map]
  rw[hx] at hb;have h1:=Ex.sb_wl hg sc false x.exps hb.1 fun e h=>he e (qq6 _ h)
  rw[qq8,qq8,qq8,qq8,El.sb_wl sc l hb.2 fun e h=>he e (qq9 _ h)];congr 1;unfold El.wr El.w El.sb;simp only;rw[←Ex.wl_map,h1,Ex.wl_map]
omit hg in
theorem Jm:∀(k:Nat) (x:Bz),(sbP lk).f k x=x:=fun _ _=>rfl
omit hg in
theorem qfA(sc:Scs)(k:Int)(t:Bz):(sbP lk).clE sc k t=if k=6 then sbT lk sc t else t:=rfl
mutual
theorem Sm.sb_w:∀(s:Sm) (sc:Scs) (n:Nat),(Pa.st s).valid nm=true→(s.w g sc n).sbad lk=false→(∀e,e∈s.ev sc n→Cl lk e)→(s.wr (sbP lk) sc n).w g sc n=(s.w g sc n).sb lk
 | .mk l k t gs e hh d b,sc,n,v,hb,he=>by
  obtain ⟨v7,v8,v9⟩:=Sm.valid_block v;have vd:=Sm.valid_decls v;have vb:=Sm.valid_body v;simp only[Sm.decls,Sm.body] at vd vb;rw[Sm.w] at hb;rw[Sm.ev] at he;by_cases h7:k=7
  ·obtain ⟨rfl,rfl,rfl⟩:=v7 h7;have h6:¬ k=6:=by omega
   rw[if_pos h7,Sm.sbad] at hb;rw[if_pos h7] at he;simp only[qq4] at hb;simp only[Sm.wr,Sm.w,if_pos h7];rw[qL Jm,QW Jm,De.nbl_wr Jm d _ _ _ vd,De.sb_wl d _ _ _ vd hb.1.1.2 fun e h=>he e (qq6 _ h),Sm.sb_wl b _ _ vb hb.1.2 fun e h=>he e (qq9 _ h),Sm.sb,if_neg h6];rfl
  ·by_cases h8:k=8
   ·obtain ⟨rfl,rfl,rfl,rfl⟩:=v8 h8;have h6:¬ k=6:=by omega
    rw[if_neg h7,if_pos h8,Sm.sbad] at hb;rw[if_neg h7,if_pos h8] at he;simp only[qq4] at hb;simp only[Sm.wr,Sm.w,if_neg h7,if_pos h8];rw[qL Jm,Sm.wrl_labels Jm,Sm.sb_wl b _ _ vb hb.1.2 he,Sm.sb,if_neg h6];rfl
   ·obtain rfl:=v9 h7 h8;rw[if_neg h7,if_neg h8,Sm.sbad] at hb;rw[if_neg h7,if_neg h8] at he;simp only[qq4] at hb;obtain ⟨⟨⟨⟨⟨b1,b2⟩,b3⟩,_⟩,b5⟩,b6⟩:=hb;simp only[Sm.wr,Sm.w,if_neg h7,if_neg h8];rw[qL Jm,Ex.sb_wl hg sc true gs b1 fun x hx=>he x (by simp[hx]),Ex.sb_wl hg sc false e b2 fun x hx=>he x (by simp[hx]),El.sb_wl hg sc hh b3 fun x hx=>he x (by simp[hx]),Sm.sb_w1 b sc n vb b5 fun x hx=>he x (by simp[hx]),Sm.sb];rw[qfA];by_cases h6:k=6
    ·rw[if_pos h6] at he;rw[if_pos h6,decide_eq_true h6,qsc,QM hg] at b6;rw[if_pos h6,if_pos h6,if_pos h6,if_pos h6,qnj hg b6 (he (t,sc) (by simp))];rfl
    ·simp only[if_neg h6];rfl
theorem De.sb_w:∀(s:De) (own sc:Scs) (n:Nat),(Pa.de s).valid nm=true→(s.w g own sc n).sbad lk=false→(∀e,e∈s.ev own sc n→Cl lk e)→(s.wr (sbP lk) own sc n).w g own sc n=(s.w g own sc n).sb lk
 | .mk k o t ns e fo b,own,sc,n,v,hb,he=>by
  obtain ⟨v4,v5⟩:=De.valid_proc v;have vb:=De.valid_body v;simp only[De.body] at vb;rw[De.w] at hb;rw[De.ev] at he;by_cases h4:k=4
  ·obtain rfl:=v4 h4;rw[if_pos h4,De.sbad,qq4] at hb;rw[if_pos h4] at he;simp only[De.wr,De.w,if_pos h4];rw[qL Jm,Fo.wr_id Jm,Sm.sb_w1 b _ _ vb hb.2 he,De.sb];rfl
  ·obtain ⟨rfl,rfl⟩:=v5 h4;rw[if_neg h4,De.sbad,qq4] at hb;rw[if_neg h4] at he;simp only[De.wr,De.w,if_neg h4];rw[qL Jm,Ex.sb_wl hg _ false e hb.1 he,De.sb];rfl
theorem De.sb_wl:∀(l:List De) (own sc:Scs) (n:Nat),(∀x,x∈l→(Pa.de x).valid nm=true)→De.sbadl lk (De.wl g own sc n l)=false→(∀e,e∈De.evl own sc n l→Cl lk e)→De.wl g own sc n (De.wrl (sbP lk) own sc n l)=De.sbl lk (De.wl g own sc n l)
 | [],_,_,_,_,_,_=>rfl
 | x::l,own,sc,n,v,hb,he=>by
  rw[De.wl,De.sbadl,qq4] at hb;rw[De.evl] at he;rw[De.wrl,De.wl,De.wl,De.sbl,De.nb_wr Jm x own sc n (v x (by simp)),De.sb_w x own sc n (v x (by simp)) hb.1 fun e h=>he e (qq6 _ h),De.sb_wl l own sc _ (fun y hy=>v y (by simp[hy])) hb.2 fun e h=>he e (qq9 _ h)]
theorem Sm.sb_wl:∀(l:List Sm) (sc:Scs) (n:Nat),(∀x,x∈l→(Pa.st x).valid nm=true)→Sm.sbadl lk (Sm.wl g sc n l)=false→(∀e,e∈Sm.evl sc n l→Cl lk e)→Sm.wl g sc n (Sm.wrl (sbP lk) sc n l)=Sm.sbl lk (Sm.wl g sc n l)
 | [],_,_,_,_,_=>rfl
 | x::l,sc,n,v,hb,he=>by
  rw[Sm.wl,Sm.sbadl,qq4] at hb;rw[Sm.evl] at he;rw[Sm.wrl,Sm.wl,Sm.wl,Sm.sbl,Sm.nb_wr Jm x sc n (v x (by simp)),Sm.sb_w x sc n (v x (by simp)) hb.1 fun e h=>he e (qq6 _ h),Sm.sb_wl l sc _ (fun y hy=>v y (by simp[hy])) hb.2 fun e h=>he e (qq9 _ h)]
theorem Sm.sb_w1:∀(l:List Sm) (sc:Scs) (n:Nat),(∀x,x∈l→(Pa.st x).valid nm=true)→Sm.sbadl lk (Sm.w1 g sc n l)=false→(∀e,e∈Sm.ev1 sc n l→Cl lk e)→Sm.w1 g sc n (Sm.wr1 (sbP lk) sc n l)=Sm.sbl lk (Sm.w1 g sc n l)
 | [],_,_,_,_,_=>rfl
 | x::l,sc,n,v,hb,he=>by
  rw[Sm.w1,Sm.sbadl,qq4] at hb;rw[Sm.ev1] at he;rw[Sm.wr1,Sm.w1,Sm.w1,Sm.sbl,Sm.wr_labels Jm,Sm.nb_wr Jm x _ _ (v x (by simp)),Sm.sb_w x _ _ (v x (by simp)) hb.1 fun e h=>he e (qq6 _ h),Sm.sb_w1 l sc _ (fun y hy=>v y (by simp[hy])) hb.2 fun e h=>he e (qq9 _ h)]
end
end
abbrev Ae:=Bz×Ex
def lkL:List Ae→Lk
 | [],_=>none
 | e::es,x=>if e.1=x then some e.2 else lkL es x
def aeT(e:Ae):V×V:=(.str e.1,e.2.v)
theorem YR(x:Bz):∀(t:List Ae) (i:Nat),∃j,zG .str (.str x) (t.map aeT) i=some ((lkL t x).map fun y=>(j,y.v))
 | [],i=>⟨0,rfl⟩
 | e::t,i=>by
  simp only[qq8,aeT,zG,YU,lkL];by_cases h:x=e.1
  ·rw[show (x.data.toList==e.1.data.toList)=true by rw[h];simp,if_pos h.symm];exact ⟨i,rfl⟩
  ·rw[show (x.data.toList==e.1.data.toList)=false by
    rw[beq_eq_false_iff_ne];intro hh;exact h (qsQ (Array.ext' hh)),if_neg (Ne.symm h)]
   exact YR x t (i+1)
def lkE(es:List Ae)(x:Bz):V:=match lkL es x with
 | some y=>y.v
 | none=>zeX
theorem qg1{S:St}{m:Nat}{es:List Ae}{bs:List Nat}{ck:Nat}(x:Bz)(h:S[m]?=some (.map (es.map aeT) bs ck)):
  qbT S .str (.agg [.int .i64 0,.int .i64 0,.int .i64 0,.int .i64 0,.int .i64 0,.str ⟨⟨[]⟩⟩,.sl true []]) true (.map m) (.str x)=some (.tup [lkE es x,.bool (lkL es x).isSome]):=by
 obtain ⟨j,hj⟩:=YR x es 0;unfold qbT lkE;rw[if_pos (by rfl)];simp only[qbA,h,hj];cases lkL es x <;> rfl
structure Sbs(es:List Ae)(cb m cg ct:Nat)(h:Bool)(F D:Np)(U:St):Prop where
 b:U[cb]?=some (.arr [.map m] 1 1)
 mm:∃bs ck,U[m]?=some (.map (es.map aeT) bs ck)
 g:U[cg]?=some (.arr [.bool h] 1 1)
 t:U[ct]?=some (.arr [.fn (.func 148) [] [.ptr cb 0 0 1,.ptr cg 0 0 1]] 1 1)
 hF:∀l,F l↔l=cg
 hD:∀l,D l↔l=cb∨l=m∨l=ct
section
variable {es:List Ae} {cb m cg ct:Nat} {h:Bool} {F D:Np} {U:St}
theorem Sbs.fr{U':St}{M:Np}(k:Sbs es cb m cg ct h F D U)(hk:Kp M U U')(hM:∀l,M l→l<U.length→¬ F l∧¬ D l):Sbs es cb m cg ct h F D U':=by
 obtain ⟨bs,ck,hm⟩:=k.mm;exact ⟨hk.at k.b fun hh=>(hM _ hh (glt k.b)).2 ((k.hD _).2 (.inl rfl)),⟨bs,ck,hk.at hm fun hh=>(hM _ hh (glt hm)).2 ((k.hD _).2 (.inr (.inl rfl)))⟩,hk.at k.g fun hh=>(hM _ hh (glt k.g)).1 ((k.hF _).2 rfl),hk.at k.t fun hh=>(hM _ hh (glt k.t)).2 ((k.hD _).2 (.inr (.inr rfl))),k.hF,k.hD⟩
theorem Sbs.put(k:Sbs es cb m cg ct h F D U)(h':Bool):Sbs es cb m cg ct h' F D (U.set cg (.arr [.bool h'] 1 1)):=by
 obtain ⟨bs,ck,hm⟩:=k.mm;exact ⟨by rw[qqX (YZ k.g k.b (by simp))];exact k.b,⟨bs,ck,by rw[qqX (YZ k.g hm (by simp))];exact hm⟩,qqV (glt k.g),by rw[qqX (YZ k.g k.t (by simp))];exact k.t,k.hF,k.hD⟩
theorem Sbs.lt(k:Sbs es cb m cg ct h F D U){l:Nat}(hl:F l∨D l):l<U.length:=by
 rcases hl with hl|hl
 ·rw[(k.hF l).1 hl];exact glt k.g
 ·rcases (k.hD l).1 hl with rfl|rfl|rfl
  ·exact glt k.b
  ·obtain ⟨_,_,hm⟩:=k.mm;exact glt hm
  ·exact glt k.t
theorem qja{lk:Lk}{sc:Scs}{x:Bz}(h:lk x=none):sbT lk sc x=x∧qaM lk sc x=false:=by
 unfold sbT qaM sbn qaK;cases sc.at x <;> simp[h]
theorem qiD{lk:Lk}{sc:Scs}{x:Bz}{y:Ex}(h:lk x=some y)(hs:sc.at x=none):sbT lk sc x=y.text∧qaM lk sc x=decide (y.kind≠6):=by
 unfold sbT qaM sbn qaK;simp[h,hs]
theorem qn8{lk:Lk}{sc:Scs}{x:Bz}(hs:(sc.at x).isSome=true):sbT lk sc x=x∧qaM lk sc x=false:=by
 unfold sbT qaM
 cases h:sc.at x with
 | none=>rw[h] at hs;cases hs
 | some k=>simp
theorem qgS(k:Sbs es cb m cg ct h F D U){p:Pw}{X:Np}{w:V}{ts:List Sct}(hsc:ScR p X U w ts)(x:Bz):
  qt prog 148 [.str x,w,.ptr cb 0 0 1,.ptr cg 0 0 1] U (fun r U'=>r=.str (sbT (lkL es) (Scx ts) x)∧Sbs es cb m cg ct (h || qaM (lkL es) (Scx ts) x) F D U'∧Kp F U U'):=by
 refine qt.ib func148 ok148 ?_;have hb:=k.b;obtain ⟨bs,ck,hm⟩:=k.mm;have hl:=qg1 (es:=es) (bs:=bs) (ck:=ck) x hm;simp[c148,ldS,hb,evX,hl]
 cases hy:lkL es x with
 | none=>
  obtain ⟨e1,e2⟩:=qja (sc:=Scx ts) hy;rw[e1,e2,qrS];have hE:lkE es x=zeX:=by unfold lkE;rw[hy]
  rw[hE];unfold zeX;simp[qG,stS,qh];refine qf (vs:=[.str x]) (by simp[rvs]) ⟨rfl,?_,?_⟩
  ·exact k.fr (M:=fun _=>False) ((Kp.refl _ _).push _) fun _ h=>h.elim
  ·exact (Kp.refl _ _).push _
 | some y=>
  have hE:lkE es x=y.v:=by unfold lkE;rw[hy]
  rw[hE];have hn:V.upd (.agg [.int .i64 0,.int .i64 0,.int .i64 0,.int .i64 0,.int .i64 0,.str ⟨⟨[]⟩⟩,.sl true []]) 0 7 y.v=some y.v:=by rw[qh];simp
  simp[qG,stS,hn];obtain ⟨U1,hU1⟩:∃U1:St,U1=U++[.arr [y.v] 7 1]:=⟨_,rfl⟩;have b0:U1[U.length]?=some (.arr [y.v] 7 1):=by rw[hU1];simp
  have kp1:Kp F U U1:=by rw[hU1];exact (Kp.refl _ _).push _
  have k1:Sbs es cb m cg ct h F D U1:=by rw[hU1];exact k.fr (M:=fun _=>False) ((Kp.refl _ _).push _) fun _ h=>h.elim
  have s1:ScR p X U1 w ts:=by rw[hU1];exact hsc.push _
  rw[←hU1];clear hU1;refine qg (Ys s1 x) ?_;have hf:=ZV ts x
  cases hfd:fnd ts x with
  | some q=>
   have hs:((Scx ts).at x).isSome=true:=by rw[hf,hfd];rfl
   obtain ⟨e1,e2⟩:=qn8 (lk:=lkL es) hs;rw[e1,e2,qrS];simp[ZT,hfd,zT,eqV];exact qf (vs:=[.str x]) (by simp[rvs]) ⟨rfl,k1,kp1⟩
  | none=>
   have hs:(Scx ts).at x=none:=by rw[hf,hfd];rfl
   obtain ⟨e1,e2⟩:=qiD hy hs;rw[e1,e2];have g1:=k1.g;have fin:∀(b':Bool) (e:Env),e.get 6=some (.str y.text)→JQ [.t 6] U.length (fun r U'=>r=.str y.text∧Sbs es cb m cg ct b' F D U'∧Kp F U U') .ret e (U1.set cg (.arr [.bool b'] 1 1)):=
    fun b' e he=>qf (vs:=[.str y.text]) (by simp[rvs,he]) ⟨rfl,k1.put b',kp1.set _ (.inl ((k.hF cg).2 rfl))⟩
   have ng:∀o,(U1.set cg o)[U.length]?=some (.arr [y.v] 7 1):=fun o=>by
    rw[qqX (by have:=glt k.g;omega)];exact b0
   cases h with
   | true=>
    simp[ZT,hfd,zT,eqV,ldS,g1,stS,zj,ng];refine fin true _ ?_;simp
   | false=>
    simp[ZT,hfd,zT,eqV,ldS,g1,b0,stS,zj,ng];exact fin _ _ (by simp)
theorem qj5(hz:∀x y,lkL es x=some y→(Pa.ex y).size≤4000)(k:Sbs es cb m cg ct h F D U){p:Pw}{X:Np}{w:V}{ts:List Sct}(hsc:ScR p X U w ts)(x:Ex)(tg:Bool):
  qt prog 149 [x.v,w,.bool tg,.ptr ct 0 0 1,.ptr cb 0 0 1,.ptr cg 0 0 1] U (fun r U'=>r=(if x.kind=6 then sbX (lkL es) (Scx ts) x else .mk x.kind x.op x.n x.man x.exp (sbT (lkL es) (Scx ts) x.text) x.args).v∧Sbs es cb m cg ct (h || (if x.kind=6 then qeN (lkL es) (Scx ts) tg x.text else qaM (lkL es) (Scx ts) x.text)) F D U'∧Kp F U U'):=by
 refine qt.ib func149 ok149 ?_;simp[c149,qG];obtain ⟨U1,hU1⟩:∃U1:St,U1=U++[.arr [x.v] 7 1,.arr [.agg [.int .i64 0,.int .i64 0,.int .i64 0,.int .i64 0,.int .i64 0,.str ⟨⟨[]⟩⟩,.sl true []]] 7 1]:=⟨_,rfl⟩;rw[←hU1];have l1:U1.length=U.length+2:=by rw[hU1];simp
 have b0:U1[U.length]?=some (.arr [x.v] 7 1):=by rw[hU1];simp
 have b1:U1[U.length+1]?=some (.arr [.agg [.int .i64 0,.int .i64 0,.int .i64 0,.int .i64 0,.int .i64 0,.str ⟨⟨[]⟩⟩,.sl true []]] 7 1):=by rw[hU1,qqU (by omega)];simp
 have kp1:Kp F U U1:=by rw[hU1];exact (Kp.refl _ _).push _
 have k1:Sbs es cb m cg ct h F D U1:=by rw[hU1];exact k.fr (M:=fun _=>False) ((Kp.refl _ _).push _) fun _ h=>h.elim
 have s1:ScR p X U1 w ts:=by rw[hU1];exact hsc.push _
 clear hU1;have nF:∀j,¬ F (U.length+j):=fun j hf=>by have:=k.lt (.inl hf);omega
 have nD:∀j,¬ D (U.length+j):=fun j hf=>by have:=k.lt (.inr hf);omega
 have hn:∀y:Ex,V.upd (.agg [.int .i64 0,.int .i64 0,.int .i64 0,.int .i64 0,.int .i64 0,.str ⟨⟨[]⟩⟩,.sl true []]) 0 7 y.v=some y.v:=fun y=>by rw[qh];simp
 simp[ldS,b0];by_cases h6:x.kind=6
 case neg=>
  simp only[if_neg h6];have h7:=k1.t;simp[h6,ldS,h7,b0];refine qi (qgS k1 s1 x.text) ?_;rintro r U2 ⟨rfl,k2,kp2⟩;have c0:=kp2.at b0 (nF 0);have c1:=kp2.at b1 (nF 1);obtain ⟨y,hy⟩:∃y,y=sbT (lkL es) (Scx ts) x.text:=⟨_,rfl⟩;rw[←hy];obtain ⟨z,hz⟩:∃z:Ex,z=.mk x.kind x.op x.n x.man x.exp y x.args:=⟨_,rfl⟩;have hzv:Ob.arr [V.agg [.int .i64 x.kind,.int .i64 x.op,.int .i64 x.n,.int .i64 x.man,.int .i64 x.exp,.str y,.sl false (x.args.map Ex.v)]] 7 1=.arr [z.v] 7 1:=by rw[hz,Ex.v_eq];rfl
  rw[←hz];simp[stS,c0,qbx,qh];rw[hzv];have d0:(U2.set U.length (.arr [z.v] 7 1))[U.length]?=some (.arr [z.v] 7 1):=qqV (glt c0);have d1:(U2.set U.length (.arr [z.v] 7 1))[U.length+1]?=some (.arr [.agg [.int .i64 0,.int .i64 0,.int .i64 0,.int .i64 0,.int .i64 0,.str ⟨⟨[]⟩⟩,.sl true []]] 7 1):=by rw[qqX (by omega)];exact c1
  obtain ⟨U3,hU3⟩:∃U3,U3=U2.set U.length (.arr [z.v] 7 1):=⟨_,rfl⟩;rw[←hU3] at d0 d1 ⊢;simp[ldS,d0,stS,d1,qh];have hw:(U3.set (U.length+1) (.arr [z.v] 7 1))[U.length+1]?=some (.arr [z.v] 7 1):=qqV (glt d1);refine qf (vs:=[z.v]) (by simp[rvs,ldS,hw]) ⟨rfl,?_,?_⟩
  ·refine Sbs.fr (M:=fun l=>l=U.length∨l=U.length+1) k2 ?_ fun l hl _=>?_
   ·rw[hU3];exact ((Kp.refl _ _).set _ (.inl (.inl rfl))).set _ (.inl (.inr rfl))
   ·rcases hl with rfl|rfl
    ·exact ⟨nF 0,nD 0⟩
    ·exact ⟨nF 1,nD 1⟩
  ·rw[hU3];exact ((kp1.trans kp2).set _ (.inr (qqY _))).set _ (.inr (by omega))
 simp only[if_pos h6];have hb:=k1.b;obtain ⟨bs,ck,hm⟩:=k1.mm;have hl:=qg1 (es:=es) (bs:=bs) (ck:=ck) x.text hm;simp[h6,ldS,b0,hb,evX,hl,qG];obtain ⟨v,hv⟩:∃v,v=lkE es x.text:=⟨_,rfl⟩
 have ux:V.upd (.agg [.int .i64 0,.int .i64 0,.int .i64 0,.int .i64 0,.int .i64 0,.str ⟨⟨[]⟩⟩,.sl true []]) 0 7 v=some v:=by
  rw[hv];unfold lkE
  cases lkL es x.text with
  | none=>rfl
  | some y=>exact hn y
 rw[←hv];simp[stS,ux];obtain ⟨U2,hU2⟩:∃U2:St,U2=U1++[.arr [v] 7 1]:=⟨_,rfl⟩;have c0:U2[U.length]?=some (.arr [x.v] 7 1):=by rw[hU2];exact gp b0
 have c1:U2[U.length+1]?=some (.arr [.agg [.int .i64 0,.int .i64 0,.int .i64 0,.int .i64 0,.int .i64 0,.str ⟨⟨[]⟩⟩,.sl true []]] 7 1):=by rw[hU2];exact gp b1
 have c2:U2[U1.length]?=some (.arr [v] 7 1):=by rw[hU2,qqU (by omega)];simp
 have kp2:Kp F U U2:=by rw[hU2];exact kp1.push _
 have k2:Sbs es cb m cg ct h F D U2:=by rw[hU2];exact k1.fr (M:=fun _=>False) ((Kp.refl _ _).push _) fun _ h=>h.elim
 have s2:ScR p X U2 w ts:=by rw[hU2];exact s1.push _
 rw[←hU2];clear hU2;have l2:=kp2.len
 have same:∀e:Env,e.get 9=some (.ptr (U.length+1) 0 0 1)→JQ [.cell 9 (some 7)] U.length (fun r U'=>r=x.v∧Sbs es cb m cg ct h F D U'∧Kp F U U') .ret e (U2.set (U.length+1) (.arr [x.v] 7 1)):=fun e he=>by
  have hw:(U2.set (U.length+1) (.arr [x.v] 7 1))[U.length+1]?=some (.arr [x.v] 7 1):=qqV (glt c1);refine qf (vs:=[x.v]) (by simp[rvs,he,ldS,hw]) ⟨rfl,?_,kp2.set _ (.inr (by omega))⟩;exact k2.fr (M:=fun l=>l=U.length+1) ((Kp.refl _ _).set _ (.inl rfl)) fun l hl _=>by rw[hl];exact ⟨nF 1,nD 1⟩
 cases hy:lkL es x.text with
 | none=>
  have e1:sbX (lkL es) (Scx ts) x=x:=by unfold sbX;rw[hy];cases (Scx ts).at x.text <;> rfl
  have e2:qeN (lkL es) (Scx ts) tg x.text=false:=by unfold qeN qeK;rw[hy];cases (Scx ts).at x.text <;> rfl
  rw[e1,e2,qrS];simp[ldS,c0,stS,c1,qh];refine same _ ?_;simp
 | some y=>
  have hE:v=y.v:=by rw[hv];unfold lkE;rw[hy]
  subst hE;simp[ldS,c0];refine qg (Ys s2 x.text) ?_;have hf:=ZV ts x.text
  cases hfd:fnd ts x.text with
  | some q=>
   have hs:(Scx ts).at x.text=some q.1:=by rw[hf,hfd];rfl
   have e1:sbX (lkL es) (Scx ts) x=x:=by unfold sbX;rw[hs]
   have e2:qeN (lkL es) (Scx ts) tg x.text=false:=by unfold qeN;rw[hs]
   rw[e1,e2,qrS];simp[ZT,hfd,zT,eqV,ldS,c0,stS,c1,qh];refine same _ ?_;simp
  | none=>
   have hs:(Scx ts).at x.text=none:=by rw[hf,hfd];rfl
   have e1:sbX (lkL es) (Scx ts) x=y:=by unfold sbX;rw[hs,hy];rfl
   have e2:qeN (lkL es) (Scx ts) tg x.text=(tg && decide (y.kind≠6) && decide (y.kind≠7)):=by unfold qeN qeK;rw[hs,hy]
   rw[e1,e2];have g2:=k2.g;have lg:=glt k.g;have d1:∀b',(U2.set cg (.arr [.bool b'] 1 1))[U.length+1]?=some (.arr [.agg [.int .i64 0,.int .i64 0,.int .i64 0,.int .i64 0,.int .i64 0,.str ⟨⟨[]⟩⟩,.sl true []]] 7 1):=fun b'=>by rw[qqX (by omega)];exact c1
   have d2:∀b',(U2.set cg (.arr [.bool b'] 1 1))[U1.length]?=some (.arr [y.v] 7 1):=fun b'=>by rw[qqX (by omega)];exact c2
   have fin:∀(b':Bool) (U4:St),Kp (fun _=>False) (U2.set cg (.arr [.bool b'] 1 1)) U4→U4[U.length+1]?=some (.arr [.agg [.int .i64 0,.int .i64 0,.int .i64 0,.int .i64 0,.int .i64 0,.str ⟨⟨[]⟩⟩,.sl true []]] 7 1)∧∀e:Env,e.get 9=some (.ptr (U.length+1) 0 0 1)→
     JQ [.cell 9 (some 7)] U.length (fun r U'=>r=y.v∧Sbs es cb m cg ct b' F D U'∧Kp F U U') .ret e (U4.set (U.length+1) (.arr [y.v] 7 1)):=fun b' U4 kp4=>by
    have k3:=k2.put b';have kp3:Kp F U (U2.set cg (.arr [.bool b'] 1 1)):=kp2.set _ (.inl ((k.hF cg).2 rfl));have e1:=kp4.at (d1 b') id;refine ⟨e1,fun e he=>?_⟩;have hw:(U4.set (U.length+1) (.arr [y.v] 7 1))[U.length+1]?=some (.arr [y.v] 7 1):=qqV (glt e1);refine qf (vs:=[y.v]) (by simp[rvs,he,ldS,hw]) ⟨rfl,?_,(kp3.trans (kp4.mono fun _ _ h=>h.elim)).set _ (.inr (by omega))⟩;exact k3.fr (M:=fun l=>l=U.length+1) ((kp4.mono fun _ _ h=>h.elim).set _ (.inl rfl)) fun l hl _=>by rw[hl];exact ⟨nF 1,nD 1⟩
   cases h with
   | true=>
    simp only[Bool.true_or];simp[ZT,hfd,zT,eqV,ldS,g2,stS,zj,d2];refine qi (qdt y (hz _ _ hy) _) ?_;rintro r U4 ⟨rfl,kp4⟩;obtain ⟨f1,f2⟩:=fin _ U4 kp4;simp[stS,f1,hn];exact f2 _ (by simp)
   | false=>
    simp only[Bool.false_or]
    cases tg with
    | false=>
     simp only[qsT];simp[ZT,hfd,zT,eqV,ldS,g2,stS,zj,d2];refine qi (qdt y (hz _ _ hy) _) ?_;rintro r U4 ⟨rfl,kp4⟩;obtain ⟨f1,f2⟩:=fin _ U4 kp4;simp[stS,f1,hn];exact f2 _ (by simp)
    | true=>
     simp only[qsc];by_cases y6:y.kind=6
     ·simp[ZT,hfd,zT,eqV,ldS,g2,c2,y6,stS,zj,d2];refine qi (qdt y (hz _ _ hy) _) ?_;rintro r U4 ⟨rfl,kp4⟩;obtain ⟨f1,f2⟩:=fin _ U4 kp4;simp[stS,f1,hn];exact f2 _ (by simp)
     ·simp[ZT,hfd,zT,eqV,ldS,g2,c2,y6,stS,zj,d2];refine qi (qdt y (hz _ _ hy) _) ?_;rintro r U4 ⟨rfl,kp4⟩;obtain ⟨f1,f2⟩:=fin _ U4 kp4;simp[stS,f1,hn];exact f2 _ (by simp)
end
def sbC(es:List Ae)(cb m cg ct:Nat):Cb where
 toPw:=sbP (lkL es)
 fe:=.nilfn
 fn:=.fn (.func 149) [] [.ptr ct 0 0 1,.ptr cb 0 0 1,.ptr cg 0 0 1]
 fc:=.fn (.func 148) [] [.ptr cb 0 0 1,.ptr cg 0 0 1]
 I h F D U:=Sbs es cb m cg ct h F D U
 cn _ _:=True
 lim:=100001
theorem qof(es:List Ae)(cb m cg ct:Nat)(hz:∀x y,lkL es x=some y→(Pa.ex y).size≤4000):(sbC es cb m cg ct).Ok where
 lim:=qqY _
 lt:=fun k l hl=>Sbs.lt k hl
 fr:=fun k hk hM=>Sbs.fr k hk hM
 lp:=fun {h F D S} k l o ho=>by
  have k:Sbs es cb m cg ct h F D S:=k;refine ⟨fun hf=>?_,fun hf=>?_⟩
  ·rw[(k.hF l).1 hf,k.g] at ho;cases ho
  ·rcases (k.hD l).1 hf with rfl|rfl|rfl
   ·rw[k.b] at ho;cases ho
   ·obtain ⟨_,_,hm⟩:=k.mm;rw[hm] at ho;cases ho
   ·rw[k.t] at ho;cases ho
 ce _ _:=trivial
 cm _ _ _ _:=trivial
 cc _ _ _:=trivial
 real:=fun {h F D S} k h'=>by
  have k:Sbs es cb m cg ct h F D S:=k;exact ⟨F,D,_,k.put h',(Kp.refl _ _).set _ (.inl ((k.hF cg).2 rfl)),grow.refl _ _,grow.refl _ _⟩
 en:=.inl ⟨rfl,fun _ _=>rfl,fun _ _ _=>rfl⟩
 nm:=⟨149,[.ptr ct 0 0 1,.ptr cb 0 0 1,.ptr cg 0 0 1],rfl,fun U x w ts tg w' h F D hsc k=>qt.mono (qj5 hz k hsc x tg) fun r U' ⟨a,b,c⟩=>⟨a,F,D,b,c,grow.refl _ _,grow.refl _ _⟩⟩
 cl:=⟨148,[.ptr cb 0 0 1,.ptr cg 0 0 1],rfl,fun U x w ts w' h F D hsc k=>qt.mono (qgS k hsc x) fun r U' ⟨a,b,c⟩=>⟨a,F,D,b,c,grow.refl _ _,grow.refl _ _⟩⟩
def qqw(es:List Ae)(m:Nat)(S:St)(r:V)(U:St):Prop:=∃w cb cg ct F D,r=.tup [.ptr w 0 0 1,.ptr cg 0 0 1]∧Wk (sbC es cb m cg ct) w 0 false F D U∧S.length≤w∧S.length≤cg∧(∀l,F l↔l=cg)∧Kp (fun _=>False) S U
theorem qov(es:List Ae)(m:Nat)(bs:List Nat)(ck:Nat)(S:St)(hm:S[m]?=some (.map (es.map aeT) bs ck)):
  qt prog 96 [.map m] S (qqw es m S):=by
 refine qt.ib func96 ok96 ?_;simp[c96,qG,ldS,stS,qF,qB,evX,zj,Zq,qh,zY];obtain ⟨B,hB⟩:∃B,B=S.length:=⟨_,rfl⟩;rw[←hB];obtain ⟨U,hU⟩:∃U:St,U=S++[.arr [.map m] 1 1,.arr [.bool false] 1 1,.arr [.fn (.func 148) [] [.ptr B 0 0 1,.ptr (B+1) 0 0 1]] 1 1,.arr [.agg [.int .i64 0,.nilfn,.fn (.func 149) [] [.ptr (B+2) 0 0 1,.ptr B 0 0 1,.ptr (B+1) 0 0 1],.fn (.func 148) [] [.ptr B 0 0 1,.ptr (B+1) 0 0 1]]] 4 1]:=⟨_,rfl⟩;rw[←hU];have b0:U[B]?=some (.arr [.map m] 1 1):=by rw[hU,hB];simp
 have b1:U[B+1]?=some (.arr [.bool false] 1 1):=by rw[hU,hB,qqU (by omega)];simp
 have b2:U[B+2]?=some (.arr [.fn (.func 148) [] [.ptr B 0 0 1,.ptr (B+1) 0 0 1]] 1 1):=by rw[hU,hB,qqU (by omega)];simp
 have b3:U[B+3]?=some (.arr [.agg [.int .i64 0,.nilfn,.fn (.func 149) [] [.ptr (B+2) 0 0 1,.ptr B 0 0 1,.ptr (B+1) 0 0 1],.fn (.func 148) [] [.ptr B 0 0 1,.ptr (B+1) 0 0 1]]] 4 1):=by rw[hU,hB,qqU (by omega)];simp
 have bm:U[m]?=some (.map (es.map aeT) bs ck):=by rw[hU,qqW (glt hm)];exact hm
 have kS:Kp (fun _=>False) S U:=by rw[hU];exact (Kp.refl _ _).push _
 have lm:=glt hm;refine qf (vs:=[.ptr (B+3) 0 0 1,.ptr (B+1) 0 0 1]) (by simp[rvs]) ?_;refine ⟨B+3,B,B+1,B+2,(fun l=>l=B+1),(fun l=>l=B∨l=m∨l=B+2),rfl,?_,by omega,by omega,fun _=>Iff.rfl,kS⟩;have k:Sbs es B m (B+1) (B+2) false (fun l=>l=B+1) (fun l=>l=B∨l=m∨l=B+2) U:=⟨b0,⟨bs,ck,bm⟩,b1,b2,fun _=>Iff.rfl,fun _=>Iff.rfl⟩;exact ⟨b3,k,by omega,by omega,trivial⟩
def qhy:List Ex→Int
 | []=>0
 | x::l=>if (Pa.ex x).err qb≠0 then (Pa.ex x).err qb else qhy l
def prE(l:List Bz)(xs:List Ex):Int:=if l.length≠xs.length∨(JH l fun s=>!qb s)=true then 1 else if ¬ l.Nodup then 6 else qhy xs
def qpI(l:List Bz)(xs:List Ex)(S:St)(r:V)(U:St):Prop:=Kp (fun _=>False) S U∧((prE l xs≠0∧r=.tup [.nilmap,.int .i64 (prE l xs)])∨(prE l xs=0∧∃m bs ck,S.length≤m∧r=.tup [.map m,.int .i64 0]∧(Za bs ck∧bs.length=(l.zip xs).length)∧U[m]?=some (.map ((l.zip xs).map aeT) bs ck)))
theorem qls(x:Bz)(S:St):Fn prog 139 [.str x] S (.bool (!qb x)):=by
 refine qt.ib func139 ok139 ?_;simp[c139];refine qg (Yw x S) ?_;simp;exact qf rfl ⟨rfl,rfl⟩
theorem qac{x:Bz}:∀{es:List Ae},lkL es x=none↔x∉es.map (·.1)
 | []=>by simp[lkL]
 | e::es=>by
  simp only[lkL,qq8,qrl,not_or];by_cases h:e.1=x
  ·rw[if_pos h];simp[h.symm]
  ·rw[if_neg h,qac (es:=es)];exact ⟨fun g=>⟨fun hh=>h hh.symm,g⟩,fun g=>g.2⟩
theorem qoK{S:St}{m:Nat}{t:List Ae}{bs:List Nat}{ck:Nat}(x:Bz)(y:Ex)(h:S[m]?=some (.map (t.map aeT) bs ck))(hx:lkL t x=none):
  qaV S .str (.map m) (.str x) y.v=some (S.set m (.map ((t++[(x,y)]).map aeT) (bs++[ck]) (ck+1))):=by
 obtain ⟨j,hj⟩:=YR x t 0;unfold qaV;rw[if_pos (by rfl)];simp only[h,hj,hx,qrg];rfl
theorem qn9(b b':Bool)(l:List Bz)(xs:List Ex)(hl:l.length≤1000)(hx:xs.length≤1000)(ox:∀x,x∈xs→x.ok)(S:St):
  qt prog 87 [.sl b (l.map .str),.sl b' (xs.map Ex.v)] S (qpI l xs S):=by
 refine qt.ib func87 ok87 ?_;have bad:∀(e:Int) (U:St) (ev:Env),prE l xs=e→e≠0→Kp (fun _=>False) S U→ev.get 4=some .nilmap→ev.get 5=some (.int .i64 e)→JQ [.t 4,.t 5] S.length (qpI l xs S) .ret ev U:=fun e U ev he h0 hk g4 g5=>
  qf (vs:=[.nilmap,.int .i64 e]) (by simp[rvs,g4,g5]) ⟨hk,.inl ⟨by rw[he];exact h0,by rw[he];rfl⟩⟩
 have hpr:prE l xs=if l.length≠xs.length∨(JH l fun s=>!qb s)=true then 1 else if ¬ l.Nodup then 6 else qhy xs:=rfl
 simp only[c87,C'.k];refine qx (fun e U=>U=S∧e.get 0=some (.sl b (l.map .str))∧e.get 1=some (.sl b' (xs.map Ex.v))) (by simp[yo]) ?_;rintro e U ⟨rfl,g0,g1⟩;refine qx (fun e U'=>Kp (fun _=>False) U U'∧(l.length=xs.length∧(JH l fun s=>!qb s)=false)∧e.get 0=some (.sl b (l.map .str))∧e.get 1=some (.sl b' (xs.map Ex.v))) ?_ ?_
 ·simp[g0,g1];by_cases hn:l.length=xs.length
  ·simp[hn,g0];refine qi (qgu b l (by unfold B50;omega) 139 [] (fun s=>!qb s) U fun x _ V _=>qt.mono (qls x V) fun v V' ⟨a,c⟩=>⟨a,by rw[c];exact Kp.refl _ _⟩) ?_;rintro v U2 ⟨rfl,hk⟩
   cases hq:JH l fun s=>!qb s with
   | true=>
    rw[if_pos (.inr hq)] at hpr;simp;refine bad 1 _ _ hpr (by decide) hk ?_ ?_ <;> simp
   | false=>
    simp;exact ⟨hk,by simp[g0],by simp[g1]⟩
  ·rw[if_pos (.inl hn)] at hpr;have hn':¬ (l.length:Int)=xs.length:=by omega
   simp[hn'];refine bad 1 _ _ hpr (by decide) (Kp.refl _ _) ?_ ?_ <;> simp
 clear g0 g1 e;rintro e U' ⟨hk,⟨hn,hq⟩,g0,g1⟩;rw[if_neg (by rw[hq];simp[hn])] at hpr;refine qx (fun e U2=>Kp (fun _=>False) U U2∧(∃m,U.length≤m∧e.get 6=some (.map m)∧U2[m]?=some (.map [] [] 0))∧e.get 0=some (.sl b (l.map .str))∧e.get 1=some (.sl b' (xs.map Ex.v))) ?_ ?_
 ·simp[evX,g0,g1];exact ⟨hk.push _,_,hk.len,rfl,by simp⟩
 clear g0 g1 e;rintro e U2 ⟨hk2,⟨m,hm,g6,bm⟩,g0,g1⟩;refine qx (fun e U3=>Kp (fun _=>False) U U3∧l.Nodup∧(∃bs ck,(Za bs ck∧bs.length=(l.zip xs).length)∧U3[m]?=some (.map ((l.zip xs).map aeT) bs ck))∧e.get 6=some (.map m)∧e.get 1=some (.sl b' (xs.map Ex.v))) ?_ ?_
 ·simp[g0];refine qQ (fun e U3=>Kp (fun _=>False) U U3∧l.Nodup∧(∃bs ck,(Za bs ck∧bs.length=(l.zip xs).length)∧U3[m]?=some (.map ((l.zip xs).map aeT) bs ck))∧e.get 6=some (.map m)∧e.get 1=some (.sl b' (xs.map Ex.v))) ?_ ?_
  ·refine qw (fun j e X=>∃i:Nat,j=l.length - i∧i≤l.length∧(l.take i).Nodup∧Kp (fun _=>False) U X∧(∃bs ck,(Za bs ck∧bs.length=i)∧X[m]?=some (.map (((l.zip xs).take i).map aeT) bs ck))∧
    e=[(26,.int .i64 i),(25,.int .i64 l.length),(24,.sl b (l.map .str)),(6,.map m),(1,.sl b' (xs.map Ex.v))]) l.length _ ?_ ⟨0,by simp,by omega,by simp,hk2,⟨[],0,⟨Za.nil,rfl⟩,by simpa using bm⟩,rfl⟩ ?_
   ·repeat' first|exact Env.sub_nil _|refine Env.sub_cons (by simp[g0,g1,g6]) ?_
   clear g0 g1 g6 e;rintro j e X ⟨i,rfl,hi,nd,kX,⟨bs,ck,hst,mX⟩,rfl⟩;by_cases h:i<l.length
   ·have hlk:=qg1 (es:=(l.zip xs).take i) (bs:=bs) (ck:=ck) l[i] mX;have hi2:i<xs.length:=by omega
    have hzip:((l.zip xs).take i).map (·.1)=l.take i:=by
     rw[List.map_take,List.map_fst_zip (by omega)]
    cases hy:lkL ((l.zip xs).take i) l[i] with
    | some y=>
     rw[hy] at hlk
     have hdup:¬ l.Nodup:=fun hd=>by
      have h1:¬ lkL ((l.zip xs).take i) l[i]=none:=by rw[hy];simp
      rw[qac,hzip,Classical.not_not] at h1;have h2:=List.nodup_append.1 ((qsd i l).symm ▸ hd);exact h2.2.2 _ h1 _ (qq1 (i:=0) (by rw[qrB];simp[h])) rfl
     rw[if_pos hdup] at hpr;have hE:lkE ((l.zip xs).take i) l[i]=y.v:=by unfold lkE;rw[hy]
     rw[hE] at hlk;have hn:V.upd (.agg [.int .i64 0,.int .i64 0,.int .i64 0,.int .i64 0,.int .i64 0,.str ⟨⟨[]⟩⟩,.sl true []]) 0 7 y.v=some y.v:=by rw[qh];simp
     simp[h,ZO,evX,hlk,qG,stS,hn];refine bad 6 _ _ hpr (by decide) (kX.push _) ?_ ?_ <;> simp
    | none=>
     rw[hy] at hlk;have hE:lkE ((l.zip xs).take i) l[i]=zeX:=by unfold lkE;rw[hy]
     rw[hE] at hlk;unfold zeX at hlk;have hn:V.upd (.agg [.int .i64 0,.int .i64 0,.int .i64 0,.int .i64 0,.int .i64 0,.str ⟨⟨[]⟩⟩,.sl true []]) 0 7 (.agg [.int .i64 0,.int .i64 0,.int .i64 0,.int .i64 0,.int .i64 0,.str ⟨⟨[]⟩⟩,.sl true []])=some (.agg [.int .i64 0,.int .i64 0,.int .i64 0,.int .i64 0,.int .i64 0,.str ⟨⟨[]⟩⟩,.sl true []]):=rfl;have mX2:(X++[.arr [.agg [.int .i64 0,.int .i64 0,.int .i64 0,.int .i64 0,.int .i64 0,.str ⟨⟨[]⟩⟩,.sl true []]] 7 1])[m]?=some (.map (((l.zip xs).take i).map aeT) bs ck):=gp mX;have hmu:=qoK l[i] xs[i] mX2 hy;simp[h,ZO,evX,hlk,qG,stS,hn,qjB hi2,ldS,hmu];have kX2:Kp (fun _=>False) U ((X++[Ob.arr [.agg [.int .i64 0,.int .i64 0,.int .i64 0,.int .i64 0,.int .i64 0,.str ⟨⟨[]⟩⟩,.sl true []]] 7 1]).set m (.map (((l.zip xs).take i++[(l[i],xs[i])]).map aeT) (bs++[ck]) (ck+1))):=(kX.push _).set _ (.inr hm)
     have htk:(l.zip xs).take (i+1)=(l.zip xs).take i++[(l[i],xs[i])]:=by
      rw[qrj,qqZ (by simp;omega)];simp
     refine ⟨_,?_,_,?_,i+1,rfl,by omega,?_,by simpa[List.map_take] using kX2,⟨bs++[ck],ck+1,⟨hst.1.snoc,by simp[hst.2]⟩,?_⟩,rfl⟩
     ·omega
     ·rw[qu (by omega) (by omega)];exact Env.so (by simp)
     ·rw[qrj,qqZ h,qrH];rw[qac,hzip] at hy;refine List.nodup_append.2 ⟨nd,by simp,fun a ha c hc hh=>hy ?_⟩;simp at hc;rw[←hc,←hh];exact ha
     ·rw[qqV (glt mX2),←List.map_take,←List.map_take,htk,qrg];rfl
   ·have hil:i=l.length:=by omega
    rw[qru (by omega)] at nd;rw[qru (by rw[List.length_zip];omega)] at mX;simp[h];exact ⟨kX,nd,bs,ck,⟨hst.1,by rw[hst.2];omega⟩,mX⟩
  ·rintro e X ⟨a,b,c,d,e⟩;exact ⟨a,b,by simpa using c,d,e⟩
 clear g0 g1 g6 e;rintro e U3 ⟨hk3,nd,⟨bs,ck,hst,m3⟩,g6,g1⟩;rw[if_neg (by simpa using nd)] at hpr;refine qx (fun e U4=>Kp (fun _=>False) U3 U4∧qhy xs=0∧e.get 6=some (.map m)) ?_ ?_
 ·simp[g1];refine qQ (fun e U4=>Kp (fun _=>False) U3 U4∧qhy xs=0∧e.get 6=some (.map m)) ?_ ?_
  ·refine qw (fun j e X=>∃i:Nat,j=xs.length - i∧i≤xs.length∧qhy xs=qhy (xs.drop i)∧Kp (fun _=>False) U3 X∧
    e=[(47,.int .i64 i),(46,.int .i64 xs.length),(45,.sl b' (xs.map Ex.v)),(6,.map m)]) xs.length _ ?_ ⟨0,by simp,by omega,by simp,Kp.refl _ _,rfl⟩ ?_
   ·repeat' first|exact Env.sub_nil _|refine Env.sub_cons (by simp[g1,g6]) ?_
   clear g1 g6 e;rintro j e X ⟨i,rfl,hi,hei,kX,rfl⟩;by_cases h:i<xs.length
   ·have hn:V.upd (.agg [.int .i64 0,.int .i64 0,.int .i64 0,.int .i64 0,.int .i64 0,.str ⟨⟨[]⟩⟩,.sl true []]) 0 7 xs[i].v=some xs[i].v:=by rw[qh];simp
    simp[h,qjB h,ldS,qG,stS,hn];refine qg (qnc xs[i] (ox _ (qra h)) _) ?_;rw[qst h,qhy] at hei;by_cases he:(Pa.ex xs[i]).err qb=0
    ·rw[if_neg (by simpa using he)] at hei;simp[he];refine ⟨_,?_,_,?_,i+1,rfl,by omega,hei,kX.push _,rfl⟩
     ·omega
     ·rw[qu (by omega) (by omega)];exact Env.so (by simp)
    ·rw[if_pos he] at hei;simp[he];refine bad _ _ _ (hpr.trans hei) he (hk3.trans (kX.push _)) ?_ ?_ <;> simp
   ·rw[List.drop_of_length_le (by omega)] at hei;simp[h];exact ⟨kX,hei⟩
  ·rintro e X ⟨a,b,c⟩;simp[a,b,c]
 clear g1 g6 e;rintro e U4 ⟨hk4,he,g6⟩;simp[g6];refine qf (vs:=[.map m,.int .i64 0]) (by simp[rvs]) ⟨hk3.trans hk4,.inr ⟨hpr.trans he,m,bs,ck,hm,rfl,hst,?_⟩⟩;exact hk4.at m3 id
end Go.Proofs.YtbifpocccfkhhaaGreatDoor

namespace Go.Proofs.YtbifpocccfkhhaaGreatDoor
open Go
def Rd(v:V)(l:List Bz)(S:St):Prop:=lenS v=some (.int .i64 l.length)∧∀(i:Nat) (h:i<l.length),∃p,iaS S 1 v i=some p∧ldS S p none=some (.str l[i])
theorem Rd.sl(b:Bool)(l:List Bz)(S:St):Rd (.sl b (l.map .str)) l S:=⟨by simp[lenS],fun i h=>⟨_,ZO h b S,by simp[ldS]⟩⟩
theorem Rd.arr{lo wr:Nat}{l:List Bz}{S:St}(h:S[lo]?=some (.arr (l.map .str) 1 wr))(hw:wr≤l.length):Rd (.arr lo 0 l.length l.length) l S:=
 ⟨rfl,fun i hi=>⟨.ptr lo i 0 l.length,by simp[iaS,h,hw,hi],by simp[ldS,h,hw,hi]⟩⟩
open Go.Proofs.Tryz
theorem QT(s:Bz)(taken:List Bz)(ht:taken.length≤899):∃n,1≤n∧n≤999∧YB s n∉taken∧∀i,1≤i→i<n→YB s i∈taken:=by
 have h1:¬ ∀i,i<900→YB s (100+i)∈taken:=fun h=>by
  have:=qgN taken 900 (fun i=>YB s (100+i)) (fun i j hi hj he=>qhK hi hj he) h;omega
 have h2:∃n,1≤n∧n≤999∧YB s n∉taken:=by
  apply Classical.byContradiction;intro hn;exact h1 fun i hi=>Classical.byContradiction fun hc=>hn ⟨100+i,by omega,by omega,hc⟩
 obtain ⟨n,h1,h2,h3⟩:=h2
 induction n using Nat.strongRecOn with
 | ind n ih=>
  by_cases hm:∃m,1≤m∧m<n∧YB s m∉taken
  ·obtain ⟨m,a,b,c⟩:=hm;exact ih m b a (by omega) c
  ·exact ⟨n,h1,h2,h3,fun i hi hl=>Classical.byContradiction fun hc=>hm ⟨i,hi,hl,hc⟩⟩
theorem zg.exists(s:Bz)(taken:List Bz)(ht:taken.length≤899):∃t,zg s taken t:=by
 by_cases hs:s∈taken
 ·obtain ⟨n,h1,_,h2,h3⟩:=QT s taken ht;exact ⟨_,.inr ⟨hs,n,h1,rfl,h2,h3⟩⟩
 ·exact ⟨s,.inl ⟨hs,rfl⟩⟩
theorem qme(s:Bz)(g:Nat)(cs:List V)(p:Bz→Bool)(taken:List Bz)(S:St)(hp:∀x,Fn prog g ([.str x]++cs) S (.bool (p x)))(hk:∀x,p x=true↔x∈taken)(hs:s.size≤16)(ht:taken.length≤899):
  qt prog 77 [.str s,.fn (.func g) [] cs] S (fun v U=>(∃t,v=.str t∧zg s taken t)∧U=S):=by
 have nk:∀x,p x=false→x∉taken:=fun x h hh=>by
  rw[(hk x).2 hh] at h;cases h
 refine qt.ib func77 ok77 ?_;simp[c77];refine qg (hp s) ?_
 cases hi:p s with
 | false=>
  simp;exact qf rfl ⟨⟨s,rfl,.inl ⟨nk s hi,rfl⟩⟩,rfl⟩
 | true=>
  obtain ⟨N,hN1,hN2,hN3,hN4⟩:=QT s taken ht;simp;refine qw (fun k e S'=>∃m:Nat,k=N - m∧1≤m∧m≤N∧S'=S∧e=[(5,.int .i64 m),(4,.str ⟨⟨[]⟩⟩),(0,.str s),(1,.fn (.func g) [] cs)]) (N - 1) _ ?_ ⟨1,rfl,by omega,hN1,rfl,rfl⟩ ?_
  ·exact Env.so (by simp)
  rintro k e S' ⟨m,rfl,hm1,hm2,rfl,rfl⟩;simp;refine qg (qfb m (by omega) S') ?_;have hd:=qjF m (by omega);simp[evX,mmV,JC];rw[qou,qqG _ _ hd,qoO (by omega)];simp;rw[qhI (by rw[qou];simp;omega),qlS];simp;refine qg (hp (YB s m)) ?_
  cases hc:p (YB s m) with
  | false=>
   simp;exact qf rfl ⟨⟨YB s m,rfl,.inr ⟨(hk _).1 hi,m,hm1,rfl,nk _ hc,fun i h1 h2=>hN4 i h1 (by omega)⟩⟩,rfl⟩
  | true=>
   have hmN:m≠N:=fun hh=>hN3 (by rw[←hh];exact (hk _).1 hc)
   simp;refine ⟨_,?_,_,?_,m+1,rfl,by omega,by omega,rfl⟩
   ·omega
   ·rw[qu (by omega) (by omega)];exact Env.so (by simp)
end Go.Proofs.YtbifpocccfkhhaaGreatDoor
namespace Go.Proofs
open Go.Shelf
def Tryz.keys137_ren:Go.Shelf.Ren:=⟨fun|7=>137|10=>172|n=>n,fun|23=>89|26=>9|3=>4|28=>168|0=>0|27=>167|33=>35|4=>4|n=>n,fun|n=>n⟩
theorem Tryz.keys137:Go.Proofs.SlLaysZ.n7 Tryz.prog Tryz.keys137_ren:={
 mixed:=by kernel_rfl
 f7:=⟨Tryz.f137.name,by decide,Tryz.func137.trans (congrArg some (by kernel_rfl))⟩
 f10:=⟨Tryz.f172.name,by decide,Tryz.func172.trans (congrArg some (by kernel_rfl))⟩
 t0:=Tryz.underlying0
 a0:=Tryz.isAgg0
 z0:=Tryz.sizeOf0
 v0:=Tryz.zeroValue0
 t4:=Tryz.underlying4
 a4:=Tryz.isAgg4
 z4:=Tryz.sizeOf4
 v4:=Tryz.zeroValue4
 t23:=Tryz.underlying89
 a23:=Tryz.isAgg89
 z23:=Tryz.sizeOf89
 v23:=Tryz.zeroValue89
 t26:=Tryz.underlying9
 a26:=Tryz.isAgg9
 z26:=Tryz.sizeOf9
 v26:=Tryz.zeroValue9
 t27:=Tryz.underlying167
 a27:=Tryz.isAgg167
 z27:=Tryz.sizeOf167
 v27:=Tryz.zeroValue167
 t28:=Tryz.underlying168
 a28:=Tryz.isAgg168
 z28:=Tryz.sizeOf168
 v28:=Tryz.zeroValue168
 t33:=Tryz.underlying35
 a33:=Tryz.isAgg35
 z33:=Tryz.sizeOf35
 v33:=Tryz.zeroValue35 }
def Tryz.sorted136_ren:Go.Shelf.Ren:=⟨fun|6=>136|8=>170|9=>171|11=>197|13=>199|12=>198|23=>247|24=>248|14=>238|15=>239|16=>240|17=>241|18=>242|19=>243|20=>244|21=>245|22=>246|25=>263|26=>264|27=>265|28=>266|29=>267|30=>268|31=>276|n=>n,fun|26=>9|28=>168|24=>22|0=>0|3=>3|37=>213|48=>254|50=>239|4=>4|40=>246|39=>245|45=>251|5=>5|9=>9|51=>266|55=>270|57=>286|58=>219|33=>35|n=>n,fun|n=>n⟩
theorem Tryz.sorted136:Go.Proofs.SlLaysZ.n6 Tryz.prog Tryz.sorted136_ren:={
 mixed:=by kernel_rfl
 f6:=⟨Tryz.f136.name,by decide,Tryz.func136.trans (congrArg some (by kernel_rfl))⟩
 f8:=⟨Tryz.f170.name,by decide,Tryz.func170.trans (congrArg some (by kernel_rfl))⟩
 f11:=⟨Tryz.f197.name,by decide,Tryz.func197.trans (congrArg some (by kernel_rfl))⟩
 t0:=Tryz.underlying0
 a0:=Tryz.isAgg0
 z0:=Tryz.sizeOf0
 v0:=Tryz.zeroValue0
 t24:=Tryz.underlying22
 a24:=Tryz.isAgg22
 z24:=Tryz.sizeOf22
 v24:=Tryz.zeroValue22
 t26:=Tryz.underlying9
 a26:=Tryz.isAgg9
 z26:=Tryz.sizeOf9
 v26:=Tryz.zeroValue9
 t28:=Tryz.underlying168
 a28:=Tryz.isAgg168
 z28:=Tryz.sizeOf168
 v28:=Tryz.zeroValue168
 i26:=by kernel_rfl }
def Tryz.sort171_ren:Go.Shelf.Ren:=⟨fun|6=>171|8=>199|9=>198|19=>247|20=>248|21=>238|22=>239|23=>240|24=>241|25=>242|26=>243|27=>244|28=>245|29=>246|36=>263|31=>264|32=>265|37=>266|38=>267|39=>268|41=>276|n=>n,fun|27=>22|29=>9|3=>3|32=>213|26=>22|0=>0|44=>254|46=>239|4=>4|36=>246|35=>245|41=>251|5=>5|9=>9|53=>266|57=>270|63=>286|64=>219|n=>n,fun|n=>n⟩
theorem Tryz.sort171:Go.Proofs.SlLaysM.n6 Tryz.prog Tryz.sort171_ren:={
 mixed:=by kernel_rfl
 f6:=⟨Tryz.f171.name,by decide,Tryz.func171.trans (congrArg some (by kernel_rfl))⟩
 f8:=Tryz.func199.trans (congrArg some (by kernel_rfl))
 f9:=⟨Tryz.f198.name,by decide,Tryz.func198.trans (congrArg some (by kernel_rfl))⟩
 f19:=Tryz.func247.trans (congrArg some (by kernel_rfl))
 f20:=Tryz.func248.trans (congrArg some (by kernel_rfl))
 f21:=⟨Tryz.f238.name,by decide,Tryz.func238.trans (congrArg some (by kernel_rfl))⟩
 f22:=⟨Tryz.f239.name,by decide,Tryz.func239.trans (congrArg some (by kernel_rfl))⟩
 f23:=⟨Tryz.f240.name,by decide,Tryz.func240.trans (congrArg some (by kernel_rfl))⟩
 f24:=⟨Tryz.f241.name,by decide,Tryz.func241.trans (congrArg some (by kernel_rfl))⟩
 f25:=⟨Tryz.f242.name,by decide,Tryz.func242.trans (congrArg some (by kernel_rfl))⟩
 f26:=⟨Tryz.f243.name,by decide,Tryz.func243.trans (congrArg some (by kernel_rfl))⟩
 f27:=⟨Tryz.f244.name,by decide,Tryz.func244.trans (congrArg some (by kernel_rfl))⟩
 f28:=⟨Tryz.f245.name,by decide,Tryz.func245.trans (congrArg some (by kernel_rfl))⟩
 f29:=⟨Tryz.f246.name,by decide,Tryz.func246.trans (congrArg some (by kernel_rfl))⟩
 f31:=Tryz.func264.trans (congrArg some (by kernel_rfl))
 f32:=Tryz.func265.trans (congrArg some (by kernel_rfl))
 f36:=⟨Tryz.f263.name,by decide,Tryz.func263.trans (congrArg some (by kernel_rfl))⟩
 f37:=⟨Tryz.f266.name,by decide,Tryz.func266.trans (congrArg some (by kernel_rfl))⟩
 f38:=⟨Tryz.f267.name,by decide,Tryz.func267.trans (congrArg some (by kernel_rfl))⟩
 f39:=⟨Tryz.f268.name,by decide,Tryz.func268.trans (congrArg some (by kernel_rfl))⟩
 f41:=⟨Tryz.f276.name,by decide,Tryz.func276.trans (congrArg some (by kernel_rfl))⟩
 t0:=Tryz.underlying0
 a0:=Tryz.isAgg0
 z0:=Tryz.sizeOf0
 v0:=Tryz.zeroValue0
 t3:=Tryz.underlying3
 a3:=Tryz.isAgg3
 z3:=Tryz.sizeOf3
 v3:=Tryz.zeroValue3
 t4:=Tryz.underlying4
 a4:=Tryz.isAgg4
 z4:=Tryz.sizeOf4
 v4:=Tryz.zeroValue4
 t5:=Tryz.underlying5
 a5:=Tryz.isAgg5
 z5:=Tryz.sizeOf5
 v5:=Tryz.zeroValue5
 t9:=Tryz.underlying9
 a9:=Tryz.isAgg9
 z9:=Tryz.sizeOf9
 v9:=Tryz.zeroValue9
 t26:=Tryz.underlying22
 a26:=Tryz.isAgg22
 z26:=Tryz.sizeOf22
 v26:=Tryz.zeroValue22
 t27:=Tryz.underlying22
 a27:=Tryz.isAgg22
 z27:=Tryz.sizeOf22
 v27:=Tryz.zeroValue22
 t29:=Tryz.underlying9
 a29:=Tryz.isAgg9
 z29:=Tryz.sizeOf9
 v29:=Tryz.zeroValue9
 t32:=Tryz.underlying213
 a32:=Tryz.isAgg213
 z32:=Tryz.sizeOf213
 v32:=Tryz.zeroValue213
 t35:=Tryz.underlying245
 a35:=Tryz.isAgg245
 z35:=Tryz.sizeOf245
 v35:=Tryz.zeroValue245
 t36:=Tryz.underlying246
 a36:=Tryz.isAgg246
 z36:=Tryz.sizeOf246
 v36:=Tryz.zeroValue246
 t41:=Tryz.underlying251
 a41:=Tryz.isAgg251
 z41:=Tryz.sizeOf251
 v41:=Tryz.zeroValue251
 t44:=Tryz.underlying254
 a44:=Tryz.isAgg254
 z44:=Tryz.sizeOf254
 v44:=Tryz.zeroValue254
 t46:=Tryz.underlying239
 a46:=Tryz.isAgg239
 z46:=Tryz.sizeOf239
 v46:=Tryz.zeroValue239
 t53:=Tryz.underlying266
 a53:=Tryz.isAgg266
 z53:=Tryz.sizeOf266
 v53:=Tryz.zeroValue266
 t57:=Tryz.underlying270
 a57:=Tryz.isAgg270
 z57:=Tryz.sizeOf270
 v57:=Tryz.zeroValue270
 t63:=Tryz.underlying286
 a63:=Tryz.isAgg286
 z63:=Tryz.sizeOf286
 v63:=Tryz.zeroValue286
 t64:=Tryz.underlying219
 a64:=Tryz.isAgg219
 z64:=Tryz.sizeOf219
 v64:=Tryz.zeroValue219 }
end Go.Proofs
namespace Go.Proofs
open Go.RowKit Go.Maps Go.Sort Go.Shelf
theorem Tryz.sorts136(m:Nat):AnyZ.SortsIn Tryz.prog Tryz.sorted136_ren Fence.wide m:=
 ⟨fun blk off cap ss W hH hblk hsz=>callsIn_wide.2 (AnyM.slices_Sort_string Tryz.sort171 blk off cap ss W hH hblk hsz),
  fun p cap W=>callsIn_wide.2 (AnyM.slices_Sort_string_none Tryz.sort171 p cap W)⟩
theorem Tryz.maps_Keys_137(mb:Option Nat)(W:World):CallsIn Fence.wide 5 Tryz.prog 137 #[.map mb] W fun e w'=>e=.returned (.func (.func 172) #[] #[.pointer (some ⟨W.heap.size,0,none⟩)])∧w'=W.alloc (.cells #[.map mb] 89):=
 AnyZ.keys_in Tryz.keys137 Fence.wide 5 trivial rfl mb W
set_option maxHeartbeats 1000000 in
theorem Tryz.slices_Sorted_keys_136_137{H:Type}(b nn:Nat)(D0:DataW H)(R:Value→Option (DataW H×List MemPlace))(w:World)(hown:w.ownsMap Tryz.prog 9 R b nn D0)(hmax:Maps.size D0≤maxLen)(hbytes:Maps.size D0 * 16≤140737488355328):
  CallsIn Fence.wide 5 Tryz.prog 136 #[.func (.func 172) #[] #[.pointer (some ⟨w.heap.size,0,none⟩)]] (w.alloc (.cells #[.map (some b)] 89)) fun e w'=>∃(v:Value) (ss:List (List UInt8)),e=.returned v∧ss.Perm (strKeys D0)∧
   w'.ownsRow (w.alloc (.cells #[.map (some b)] 89)).heap.size 9 1 v ss.length ((ss.mergeSort (fun x y=>decide (x≤y))).map encStr)∧(v=.slice none 0 0↔ss=[])∧Below (w.alloc (.cells #[.map (some b)] 89)).heap.size (w.alloc (.cells #[.map (some b)] 89)) w':=by
 have hbl:=hown.lt;have hseq:SeqGives Fence.wide 2 Tryz.prog 172 #[.pointer (some ⟨w.heap.size,0,none⟩)] encStr (fun ss=>ss.Perm (strKeys D0)) (Maps.size D0) (w.alloc (.cells #[.map (some b)] 89)):=
  AnyZ.keys_gives (ρ:=Tryz.keys137_ren) { Tryz.keys137 with } Fence.wide _ trivial rfl (by omega) w.heap.size b nn D0 _ (by simp) (by simp) (by
   obtain ⟨es,clock,hb,Ft,hs,hD⟩:=hown;exact ⟨es,clock,(Below.heap_alloc _ _ b hbl).trans hb,Ft,hs,hD⟩)
 exact AnyZ.sorted_in Tryz.sorted136 Fence.wide 5 trivial trivial trivial trivial rfl (by omega) (Tryz.sorts136 _) (enters_of Tryz.func171 (by kernel_rfl) rfl) 172 #[.pointer (some ⟨w.heap.size,0,none⟩)] trivial (enters_of Tryz.func172 (by kernel_rfl) rfl) _ _ hmax hbytes _ hseq
set_option maxHeartbeats 1000000 in
theorem Tryz.sorted86{H:Type}(b nn:Nat)(D0:DataW H)(R:Value→Option (DataW H×List MemPlace))(w:World)(hown:w.ownsMap Tryz.prog 9 R b nn D0)(hmax:Maps.size D0≤maxLen)(hbytes:Maps.size D0 * 16≤140737488355328):
  Calls Tryz.prog 86 #[.map (some b)] w fun e w'=>∃(v:Value) (ss:List (List UInt8)),e=.returned v∧ss.Perm (strKeys D0)∧
   w'.ownsRow w.heap.size 9 1 v ss.length ((ss.mergeSort (fun x y=>decide (x≤y))).map encStr)∧(v=.slice none 0 0↔ss=[])∧Below w.heap.size w w':=by
 refine (callsIn_wide (n:=6)).1 ?_;have hfK:Fence.wide.fn 137:=trivial;have hfS:Fence.wide.fn 136:=trivial;refine callsIn_of_wp Tryz.func86 rfl trivial ?_ rfl;simp only[Tryz.ntmps86,List.size_toArray,List.length_cons,List.length_nil,Nat.reduceAdd,Nat.reduceSub,Array.replicate_succ,Array.replicate_zero,List.push_toArray,List.append_toArray,List.nil_append,List.cons_append];gi_wp2_with (first
  | (gi_at_call 137;refine (Tryz.maps_Keys_137 _ _).mono ?_;rintro e w' ⟨rfl,rfl⟩)
  | (gi_at_call 136;refine (Tryz.slices_Sorted_keys_136_137 b nn D0 R w hown hmax hbytes).mono ?_;rintro e w' ⟨v,ss,rfl,hS,hrow,hnil,hb⟩))
 go_ret;exact ⟨v,ss,rfl,hS,ownsRow_base_a hrow (by simp),hnil,((Below.refl _ w).alloc (Nat.le_refl _) _).trans (hb.mono (by simp))⟩
end Go.Proofs
namespace Go.Proofs.YtbifpocccfkhhaaGreatDoor
open Go Go.Proofs.Tryz
theorem SR.layAt{E:En}{S:St}{w w':World}(h:SR E S w)(hb:∀b,b<w.heap.size→w'.heap[b]?=w.heap[b]?)(hs:w.heap.size≤w'.heap.size)(ho:(w'.output,w'.os)=(w.output,w.os)){g:Nat}{cells:Array Value}{t:TypeId}(hg:w.heap.size≤g)(hc:w'.heap[g]?=some (.cells cells t (0,0))):
  SR (E.lay g cells) S w'∧Ext S.length E S w (E.lay g cells) S w':=by
 have hno:∀o,E.I g o=none:=fun o=>by
  cases hc:E.I g o with
  | none=>rfl
  | some c=>exact absurd (cell?_lt (h.I _ _ _ hc)) (by omega)
 have hle:E.le (E.lay g cells):=⟨fun b o c h1=>by
  by_cases h2:b=g
  ·subst h2;rw[hno] at h1;cases h1
  ·simp[En.lay,h2];exact h1,fun _ _ _ h=>h⟩
 refine ⟨⟨h.gl.old hle.1 (fun b _ _ _ hc _=>hb b (Zp hc)),?_,?_,h.dom,?_,?_,h.inj⟩,⟨hs,hle.1,fun _ _ _ _ hx=>hx,fun _ _ hx=>hx,fun b hb=>.inl hb,?_,fun b h1 _=>hb b h1,ho⟩⟩
 ·intro b o c h1;by_cases hb':b=g
  ·subst hb';simp only[En.lay,if_true] at h1;unfold World.cell?;rw[hc];simpa using h1
  ·simp only[En.lay,hb',if_false] at h1;have:=h.I b o c h1;rw[cell?_heap (hb _ (cell?_lt this))];exact this
 ·intro l o hl;by_cases hd:o=.dead
  ·subst hd;trivial
  exact (h.obs l o hl).mono hle (fun _ _ hx=>hx) (fun st' x hx=>hb _ (h.lt _ ⟨l,st',x,⟨o,hl,hd⟩,hx,rfl⟩))
 ·intro b o h1;have h2:=h.lt b h1;simp only[En.lay];rw[if_neg (by omega)];exact h.apart b o h1
 ·intro b h1;have:=h.lt b h1;omega
 ·intro b o c h1;by_cases hb':b=g
  ·exact .inr (.inr (by omega))
  ·simp only[En.lay,hb',if_false] at h1;exact .inl h1
def JB(ks:List Bz):List Bz:=((ks.map fun k=>k.data.toList).mergeSort fun x y=>decide (x≤y)).map fun l=>⟨l.toArray⟩
theorem Qu(ks:List Bz):(JB ks).length=ks.length:=by unfold JB;simp
noncomputable abbrev qoo:Value→Option (DataW Unit×List MemPlace):=plainElem prog 4
theorem qjI(m:Nat)(ks:List Bz)(bs:List Nat)(ck:Nat)(S:St)(hm:S[m]?=some (.map (ks.map kv) bs ck))(hst:Za bs ck)(nd:ks.Nodup)(hl:ks.length≤1000000)(hz:∀k,k∈ks→k.size≤maxLen):
  qt prog 86 [.map m] S (fun r U=>r=.sl false ((JB ks).map .str)∧U=S):=by
 refine qt.of_calls func86 ok86 fun E w us hs hv=>?_
 obtain ⟨hlen,hv⟩:=hv
 obtain ⟨x,hu,hx⟩:∃x,us=#[.map (some x.b)]∧E.ρ m 0=some x:=by
  match us,hlen with
  | ⟨[u]⟩,_=>
   have:=hv 0 _ u rfl rfl
   cases this with
   | map h=>exact ⟨_,rfl,h⟩
 subst hu;obtain ⟨x',es,h1,h2,h3,h4,h5⟩:=hs.obs m _ hm;rw[hx] at h1;cases h1;have hes:es.size=ks.length:=by rw[←h3,qq2]
 have ent:∀(i:Nat) (e:MapEntry),es[i]?=some e→∃k,ks[i]?=some k∧e.key=.string k∧e.val=.bool true:=fun i e he=>by
  have hi:i<ks.length:=by rw[←hes];exact (qrb.1 he).1
  obtain ⟨g1,g2⟩:=h5 i (.str ks[i]) (.bool true) e (by simp[kv,hi]) he;refine ⟨ks[i],qqZ hi,?_,?_⟩
  ·generalize e.key=kk at g1;cases g1;rfl
  ·generalize e.val=kk at g2;cases g2;rfl
 have hkeys:es.toList.map (·.key)=ks.map Value.string:=by
  apply qrM;intro i;rw[qq7,qq7,qr3]
  cases he:es[i]? with
  | none=>
   have:ks.length≤i:=by rw[←hes];exact Array.getElem?_eq_none_iff.1 he
   rw[qsv.2 this];rfl
  | some e=>
   obtain ⟨k,hk,hk',_⟩:=ent i e he;rw[hk];simp[hk']
 have hrd:∀(i:Nat) (e:MapEntry),es[i]?=some e→∃k,ks[i]?=some k∧WideElems.rd prog 9 qoo e=some (.string k.data.toList,.lit (.bool true)):=fun i e he=>by
  obtain ⟨k,hk,h6,h7⟩:=ent i e he;refine ⟨k,hk,?_⟩;obtain ⟨key,val,born⟩:=e;simp only at h6 h7;subst h6 h7;exact WideElems.rd_mk (yv:=(.lit (.bool true),[])) (WideMaps.keyOf_string_mk Tryz.underlying9 (hz k (qq1 hk))) (plainElem_bool Tryz.underlying4 true)
 have hrg:es.toList.map (WideElems.rg prog 9 qoo)=ks.map fun k=>(.string k.data.toList,.lit (.bool true)):=by
  apply qrM;intro i;rw[qq7,qq7,qr3]
  cases he:es[i]? with
  | none=>
   have:ks.length≤i:=by rw[←hes];exact Array.getElem?_eq_none_iff.1 he
   rw[qsv.2 this];rfl
  | some e=>
   obtain ⟨k,hk,hk'⟩:=hrd i e he;rw[hk];simp[WideElems.rg_of hk']
 obtain ⟨D0,hD⟩:∃D0:DataW Unit,D0=.map ((es.toList.map (WideElems.rg prog 9 qoo)).foldr DataW.insert []):=⟨_,rfl⟩;have hml:(1000000:Nat)≤maxLen:=by decide
 have hown:w.ownsMap prog 9 qoo x.b es.size D0:=⟨es,ck,h2,⟨by omega,⟨fun e he=>?_,?_,?_⟩,fun e he=>?_⟩,qqY _,hD⟩;rotate_left
 ·exact hst.1 _ (by rw[h4];exact qrG he)
 ·rw[←h4];exact hst.2
 ·rw[hkeys];exact List.Pairwise.map _ (fun a b hab=>by intro hh;exact hab (by injection hh)) nd
 ·obtain ⟨i,hi⟩:=qse.1 he;rw[qr3] at hi;obtain ⟨k,_,hk⟩:=hrd i e hi;exact ⟨_,hk⟩
 have hsz:Maps.size D0=ks.length:=by
  rw[hD,Maps.size_eq,(WideShapes.sorted_perm _).length_eq,hrg,qq2]
 have hsk:(strKeys D0).Perm (ks.map fun k=>k.data.toList):=by
  rw[hD];show (List.map _ _).Perm _;refine ((WideShapes.sorted_perm _).map _).trans ?_;rw[hrg,qr2];exact List.Perm.refl _
 refine Calls.mono (Tryz.sorted86 x.b es.size D0 qoo w hown (by omega) (by omega)) ?_;rintro e w' ⟨v,ss,rfl,hp,hrow,hnil,hb⟩;have hso:ss.mergeSort (fun x y=>decide (x≤y))=(ks.map fun k=>k.data.toList).mergeSort (fun x y=>decide (x≤y)):=mergeSort_of_perm (hp.trans hsk)
 have hmap:(JB ks).map Value.string=(ss.mergeSort (fun x y=>decide (x≤y))).map encStr:=by
  rw[hso];unfold JB;rw[qr2];rfl
 have hn:ss.length=ks.length:=by rw[hp.length_eq,hsk.length_eq,qq2]
 rw[←hmap] at hrow;obtain ⟨_,⟨rfl,h0⟩|⟨g,cap,cur,rfl,hg,hc,hcap,_,hcs,htake⟩⟩:=hrow
 ·obtain ⟨g1,g2⟩:=hs.grown hb.block hb.size (by rw[hb.output,hb.os]);have:JB ks=[]:=qsA.1 (by rw[Qu];omega);exact ⟨_,_,E,S,rfl,⟨rfl,rfl⟩,by rw[this];exact .slnil _,g1,g2 _,qqY _⟩
 ·obtain ⟨g1,g2⟩:=hs.layAt hb.block hb.size (by rw[hb.output,hb.os]) hg hc;refine ⟨_,_,E.lay g cur,S,rfl,⟨rfl,rfl⟩,?_,g1,g2,qqY _⟩;have hlen':ss.length=((JB ks).map V.str).length:=by rw[qq2,Qu,hn]
  have hget:∀(i:Nat) (y:Bz),(JB ks)[i]?=some y→cur[i]?=some (.string y):=fun i y hy=>by
   have h6:=congrArg (·[i]?) htake;simp only[qq7,hy,qre,List.getElem?_take] at h6;split at h6
   ·rw[qr3] at h6;exact h6
   ·cases h6
  rw[hlen'];refine .sl (sz:=1) (by rw[←hlen'];exact hcap) (by simp) (fun v hv=>?_) (fun i j hi hj=>?_) (fun i v j c' c h1 h2 h3=>?_)
  ·obtain ⟨k,_,rfl⟩:=qrf.1 hv;rfl
  ·have:j=0:=by omega
   subst this;rw[qq2] at hi;simp[En.lay,hget i _ (qqZ hi)]
  ·rw[qq7] at h1;obtain ⟨y,hy,rfl⟩:=qq3.1 h1
   have hj:j=0:=by
    have:=(qqT.1 h2).1;simp[V.cells] at this;exact this
   subst hj;simp[V.cells] at h2;subst h2;simp[En.lay,hget i y hy] at h3;subst h3;exact .str y
theorem qfI(h:coP.H)(sc:Scs)(t:Bz):(ym (coP.clH h t sc)).length≤(ym h).length+1:=by
 show (Prod.fst (coU h t sc)).length≤_;unfold coU ym;cases sc.at t <;> simp
mutual
theorem Ex.frn(sc:Scs)(tg:Bool):∀(x:Ex) (h:coP.H),(ym (Ex.hs coP sc tg h x)).length≤(ym h).length+(Pa.ex x).size
 | .mk k o n m e t a,h=>by
  have ha:=Ex.frnl sc false a h;have hz:=Pa.size_eq (.ex (.mk k o n m e t a));simp only[Pa.own,Pa.kids,Ex.args] at hz;have hc:=qfI (Ex.hsl coP sc false h a) sc t;rw[Ex.hs,qjx];split <;> omega
theorem Ex.frnl(sc:Scs)(tg:Bool):∀(l:List Ex) (h:coP.H),(ym (Ex.hsl coP sc tg h l)).length≤(ym h).length+qK (l.map Pa.ex)
 | [],h=>by simp[Ex.hsl]
 | x::l,h=>by
  have h1:=Ex.frn sc tg x h;have h2:=Ex.frnl sc tg l (Ex.hs coP sc tg h x);rw[Ex.hsl,qq8,sizes_cons];omega
end
theorem El.frnl(sc:Scs):∀(l:List El) (h:coP.H),(ym (El.hsl coP sc h l)).length≤(ym h).length+qK (l.map Pa.el)
 | [],h=>by simp[El.hsl]
 | x::l,h=>by
  have h1:=Ex.frnl sc false x.exps h;have h2:=El.frnl sc l (Ex.hsl coP sc false h x.exps);have hz:=Pa.size_eq (.el x);simp only[Pa.kids] at hz;show (ym (El.hsl coP sc (Ex.hsl coP sc false h x.exps) l)).length≤_;rw[qq8,sizes_cons];omega
mutual
theorem Sm.frn:∀(s:Sm) (sc:Scs) (n:Nat) (h:coP.H),(ym (Sm.hs coP sc n h s)).length≤(ym h).length+(Pa.st s).size
 | .mk l k t g e el d b,sc,n,h=>by
  have hz:=Sm.size_parts' (.mk l k t g e el d b);simp only[Sm.labels,Sm.targets,Sm.exps,Sm.elems,Sm.decls,Sm.body] at hz;have e1:=Ex.frnl sc true g h;rw[Sm.hs];split
  ·have e2:=De.frnl d (qd (qe d b) n::sc) sc (n+(qd (qe d b) n).length) (enters coP (Ex.hsl coP sc true h g) (qd (qe d b) n));have e3:=Sm.frnl b (qd (qe d b) n::sc) (n+(qd (qe d b) n).length+De.nbl d) (De.hsl coP (qd (qe d b) n::sc) sc (n+(qd (qe d b) n).length) (enters coP (Ex.hsl coP sc true h g) (qd (qe d b) n)) d);rw[zB] at e2;omega
  ·split
   ·have e3:=Sm.frnl b (qd (qk b) n::sc) (n+(qd (qk b) n).length) (enters coP (Ex.hsl coP sc true h g) (qd (qk b) n));rw[zB] at e3;omega
   ·have e2:=Ex.frnl sc false e (Ex.hsl coP sc true h g);have e3:=El.frnl sc el (Ex.hsl coP sc false (Ex.hsl coP sc true h g) e);have e4:=Sm.frn1 b sc n (El.hsl coP sc (Ex.hsl coP sc false (Ex.hsl coP sc true h g) e) el);have hc:=qfI (Sm.hs1 coP sc n (El.hsl coP sc (Ex.hsl coP sc false (Ex.hsl coP sc true h g) e) el) b) sc t;rw[qjl];split <;> omega
theorem De.frn:∀(s:De) (own sc:Scs) (n:Nat) (h:coP.H),(ym (De.hs coP own sc n h s)).length≤(ym h).length+(Pa.de s).size
 | .mk k o t ns e fo b,own,sc,n,h=>by
  have hz:=De.size_parts' (.mk k o t ns e fo b);simp only[De.names,De.formals,De.exps,De.body] at hz;rw[De.hs];split
  ·have e1:=Ex.frnl own false e h;have e2:=Sm.frn1 b (qd (fo.map Fo.name) n::own) (n+(qd (fo.map Fo.name) n).length) (enters coP (Ex.hsl coP own false h e) (qd (fo.map Fo.name) n));rw[zB] at e2;omega
  ·have e1:=Ex.frnl (if k=2 then sc else own) false e h;omega
theorem De.frnl:∀(l:List De) (own sc:Scs) (n:Nat) (h:coP.H),(ym (De.hsl coP own sc n h l)).length≤(ym h).length+qK (l.map Pa.de)
 | [],_,_,_,h=>by simp[De.hsl]
 | x::l,own,sc,n,h=>by
  have h1:=De.frn x own sc n h;have h2:=De.frnl l own sc (n+De.nb x) (De.hs coP own sc n h x);rw[De.hsl,qq8,sizes_cons];omega
theorem Sm.frnl:∀(l:List Sm) (sc:Scs) (n:Nat) (h:coP.H),(ym (Sm.hsl coP sc n h l)).length≤(ym h).length+qK (l.map Pa.st)
 | [],_,_,h=>by simp[Sm.hsl]
 | x::l,sc,n,h=>by
  have h1:=Sm.frn x sc n h;have h2:=Sm.frnl l sc (n+Sm.nb x) (Sm.hs coP sc n h x);rw[Sm.hsl,qq8,sizes_cons];omega
theorem Sm.frn1:∀(l:List Sm) (sc:Scs) (n:Nat) (h:coP.H),(ym (Sm.hs1 coP sc n h l)).length≤(ym h).length+qK (l.map Pa.st)
 | [],_,_,h=>by simp[Sm.hs1]
 | x::l,sc,n,h=>by
  have h1:=Sm.frn x (qd x.labels n::sc) (n+(qd x.labels n).length) (enters coP h (qd x.labels n));have h2:=Sm.frn1 l sc (n+(qd x.labels n).length+Sm.nb x) (Sm.hs coP (qd x.labels n::sc) (n+(qd x.labels n).length) (enters coP h (qd x.labels n)) x);rw[zB] at h1;rw[Sm.hs1,qq8,sizes_cons];omega
end
theorem Sm.frees_len(s:Sm):(ym (s.wholeH coP coZ)).length≤(Pa.st s).size:=by
 have:=Sm.frn s [qd s.labels 0] (qd s.labels 0).length (enters coP coZ (qd s.labels 0));rw[zB] at this;have h0:(ym coZ).length=0:=rfl;show (ym (Sm.hs coP [qd s.labels 0] (qd s.labels 0).length (enters coP coZ (qd s.labels 0)) s)).length≤_;omega
theorem Zy:∀{l ks:List Bz},ks.Nodup→(l.foldl yR ks).Nodup
 | [],ks,h=>h
 | s::l,ks,h=>by
  refine Zy (l:=l) ?_;unfold yR;split
  ·exact h
  ·rename_i hs;exact List.nodup_append.2 ⟨h,by simp,fun a ha b hb=>by simp at hb;subst hb;rintro rfl;exact hs (zo.2 ha)⟩
theorem Qz:∀{l ks:List Bz},(l.foldl yR ks).length≤ks.length+l.length
 | [],ks=>by simp
 | s::l,ks=>by
  have:=Qz (l:=l) (ks:=yR ks s);have h2:(yR ks s).length≤ks.length+1:=by unfold yR;split <;> simp
  rw[qsD,qrk];omega
def Sm.frees(s:Sm):List Bz:=JB ((ym (s.wholeH coP coZ)).foldl yR [])
theorem qn1(s:Sm)(hs:s.ok)(hsz:(Pa.st s).size≤4000)(hn:Sm.nb1 [s]≤100000)(S:St):
  qt prog 29 [s.v] S (fun r U=>r=.tup [.sl (decide ((Pa.st s).err qb≠0)) ((if (Pa.st s).err qb=0 then s.frees else []).map .str),.int .i64 ((Pa.st s).err qb)]∧Kp (fun _=>False) S U):=by
 refine qt.ib func29 ok29 ?_;obtain ⟨S1,hS1⟩:∃S1:St,S1=S++[.arr [s.v] 8 1]:=⟨_,rfl⟩;have b0:S1[S.length]?=some (.arr [s.v] 8 1):=by rw[hS1];simp
 have kS:Kp (fun _=>False) S S1:=by rw[hS1];exact (Kp.refl _ _).push _
 simp[c29,qG];rw[←hS1];simp[ldS,b0];refine qg (jU s hs S1) ?_;by_cases he:(Pa.st s).err qb=0
 ·simp[he,ldS,b0];refine qi (qcu s hs hsz hn S1) ?_;rintro r U ⟨m,c4,c5,c6,v,ps,F,D,rfl,k,kU,_⟩;obtain ⟨bs,ck,hst,hm⟩:=k.fm;have hv:=(Pa.valid_iff.1 (qI he).2);simp;refine qi (qjI m _ bs ck U hm hst (Zy List.nodup_nil) ?_ ?_) ?_
  ·have h1:=Qz (l:=ym (s.wholeH coP coZ)) (ks:=[]);have h2:=s.frees_len;simp only[qrX] at h1;exact qrt h1 (by omega)
  ·intro x hx;rw[Qf] at hx;have hx:x∈ym (s.wholeH coP coZ):=hx.elim (fun h=>by simp at h) id;rw[Sm.free_occ (f:=yn) (nm:=qb) (fun k=>ZG k) s (qI he).2] at hx;have:=QV (qrR.1 hx).2;exact qrt this (by decide)
  ·rintro r U2 ⟨rfl,rfl⟩;simp;exact qf rfl ⟨rfl,kS.trans kU⟩
 ·simp[he];exact qf rfl ⟨rfl,kS⟩
theorem Co.at{m c4 c5 c6:Nat}{h:List Bz×List Bz}{v:V}{ps:List Nat}{F D:Np}{U:St}(k:Co m c4 c5 c6 h v ps F D U){i:Nat}(hi:i<h.2.length):
  ∃p l st,iaS U 1 v (i:Int)=some (.ptr l i 0 st)∧ldS U (.ptr l i 0 st) none=some (.ptr p 0 0 1)∧U[p]?=some (plc h.2[i] i h.2[i]):=by
 have hip:i<ps.length:=by rw[k.pn];exact hi
 obtain ⟨_,hp⟩:=k.pl i ps[i] h.2[i] (qqZ hip) (qqZ hi);rcases k.gr with ⟨h0,_⟩|⟨a,wr,rfl,ha,hw,_,_⟩
 ·rw[h0] at hip;simp at hip
 ·refine ⟨ps[i],a,ps.length,?_,?_,hp⟩
  ·simp only[iaS,ha];rw[if_pos ⟨hw,trivial,by omega,by omega⟩];simp
  ·simp only[ldS,ha];rw[if_pos ⟨hw,hip⟩];simp[hip]
theorem Co.lenS{m c4 c5 c6:Nat}{h:List Bz×List Bz}{v:V}{ps:List Nat}{F D:Np}{U:St}(k:Co m c4 c5 c6 h v ps F D U):lenS v=some (.int .i64 h.2.length):=by
 have:=k.pn;rcases k.gr with ⟨rfl,rfl⟩|⟨a,wr,rfl,_⟩
 ·rw[←this];rfl
 ·rw[←this];rfl
theorem qop{m c4 c5 c6:Nat}{h:List Bz×List Bz}{v:V}{ps:List Nat}{F D:Np}{U:St}(k:Co m c4 c5 c6 h v ps F D U)(hn:h.2.length≤100000):
  qt prog 75 [v] U (fun r U'=>r=.map U.length∧(∃bs ck,Za bs ck∧U'[U.length]?=some (.map ((h.2.foldl yR []).map kv) bs ck))∧Kp (fun _=>False) U U'):=by
 refine qt.ib func75 ok75 ?_;have hlv:=k.lenS;have hmk:∀(e:Env) (S:St),evX e S .mkm=some (V.map S.length,S++[Ob.map [] [] 0]):=fun _ _=>rfl
 simp[c75,hmk,↓qap,hlv];refine qQ (fun e U'=>e.get 3=some (.map U.length)∧(∃bs ck,Za bs ck∧U'[U.length]?=some (.map ((h.2.foldl yR []).map kv) bs ck))∧Kp (fun _=>False) U U') ?_ ?_
 ·refine qw (fun j e U'=>∃i:Nat,j=h.2.length - i∧i≤h.2.length∧(∃bs ck,Za bs ck∧U'=U++[.map (((h.2.take i).foldl yR []).map kv) bs ck])∧
   e=[(9,.int .i64 i),(8,.int .i64 h.2.length),(7,v),(3,.map U.length)]) h.2.length _ ?_ ⟨0,by simp,by omega,⟨[],0,Za.nil,rfl⟩,rfl⟩ ?_
  ·exact Env.so (by simp)
  rintro j e U' ⟨i,rfl,hi,⟨bs,ck,hst,rfl⟩,rfl⟩;by_cases hh:i<h.2.length
  ·have k':=k.push [.map (((h.2.take i).foldl yR []).map kv) bs ck];obtain ⟨p,l,st,h1,h2,h3⟩:=k'.at hh;have hm:(U++[Ob.map (((h.2.take i).foldl yR []).map kv) bs ck])[U.length]?=some (.map (((h.2.take i).foldl yR []).map kv) bs ck):=by simp
   unfold plc at h3
   have h4:ldS (U++[Ob.map (((h.2.take i).foldl yR []).map kv) bs ck]) (.ptr p 0 1 1) none=some (.str h.2[i]):=by
    simp only[ldS,h3];rfl
   have hft:fits 1 [V.str h.2[i]]=true:=rfl;simp[hh,h1,h2,zY,h4,hft];refine qi (qe7 true [h.2[i]] _ bs ck U.length _ (by simp) hm) ?_;rintro r U2 ⟨bs',ck',hst',rfl⟩;simp[zk (n:=(i:Int)+1)];refine ⟨_,?_,_,?_,i+1,rfl,by omega,⟨bs',ck',hst' hst,?_⟩,rfl⟩
   ·omega
   ·exact Env.so (by simp)
   ·rw[qrj,qqZ hh,qrH,qrD];exact ⟨by rw[qsD,List.foldl_nil],rfl,rfl⟩
  ·have:i=h.2.length:=by omega
   subst this;rw[qrP];simp;exact ⟨hst,(Kp.refl _ _).push _⟩
 ·rintro e U' ⟨h3,h4,h5⟩;simp[h3];exact qf rfl ⟨rfl,h4,h5⟩
def ki(e:Bz×Int):V×V:=(.str e.1,.int .i64 e.2)
def qew:List (Bz×Int)→Bz→Int
 | [],_=>0
 | (k,v)::r,s=>if s=k then v else qew r s
def qiA:List (Bz×Int)→Bz→Int→List (Bz×Int)
 | [],s,n=>[(s,n)]
 | (k,v)::r,s,n=>if s=k then (k,n)::r else (k,v)::qiA r s n
theorem qdO(s:Bz)(n:Int)(x:Bz):∀ms,qew (qiA ms s n) x=if x=s then n else qew ms x
 | []=>by simp[qiA,qew]
 | (k,v)::r=>by
  unfold qiA;by_cases h:s=k
  ·subst h;rw[if_pos rfl,qew,qew];split <;> rfl
  ·rw[if_neg h,qew,qew,qdO s n x r];by_cases hx:x=k
   ·subst hx;rw[if_pos rfl,if_pos rfl,if_neg (Ne.symm h)]
   ·rw[if_neg hx,if_neg hx]
theorem YN(s:Bz)(n:Int):∀(ms:List (Bz×Int)) (i:Nat),(zG .str (.str s) (ms.map ki) i=some none∧qew ms s=0∧qiA ms s n=ms++[(s,n)])∨∃(j:Nat) (v:Int),zG .str (.str s) (ms.map ki) i=some (some (i+j,.int .i64 v))∧qew ms s=v∧qiA ms s n=ms.set j (s,n)∧j<ms.length
 | [],i=>.inl ⟨rfl,rfl,rfl⟩
 | (k,v)::r,i=>by
  simp only[qq8,ki,zG,YU];by_cases h:s=k
  ·subst h;refine .inr ⟨0,v,?_,?_,?_,by simp⟩
   ·simp
   ·rw[qew,if_pos rfl]
   ·rw[qiA,if_pos rfl];rfl
  ·have hne:(s.data.toList==k.data.toList)=false:=by
    rw[beq_eq_false_iff_ne];intro hh;exact h (qsQ (Array.ext' hh))
   rw[hne];simp only;rw[qew,if_neg h,qiA,if_neg h];rcases YN s n r (i+1) with ⟨h1,h2,h3⟩|⟨j,w,h1,h2,h3,h4⟩
   ·exact .inl ⟨h1,h2,by rw[h3];rfl⟩
   ·refine .inr ⟨j+1,w,?_,h2,by rw[h3];rfl,by simpa using h4⟩;rw[show i+(j+1)=i+1+j by omega];exact h1
def Cm(c:Bz→Int)(l:Nat)(S:St):Prop:=∃ms bs ck,S[l]?=some (.map (ms.map ki) bs ck)∧∀x,qew ms x=c x
theorem Cm.get{c:Bz→Int}{l:Nat}{S:St}(h:Cm c l S)(s:Bz):qbT S .str (.int .i64 0) false (.map l) (.str s)=some (.int .i64 (c s)):=by
 obtain ⟨ms,bs,ck,h,hc⟩:=h;unfold qbT;rw[if_pos (by rfl)];simp only[qbA,h];rcases YN s 0 ms 0 with ⟨h1,h2,_⟩|⟨j,v,h1,h2,_⟩
 ·rw[h1,←hc,h2];rfl
 ·rw[h1,←hc,h2];rfl
theorem Cm.put{c:Bz→Int}{l:Nat}{S:St}(h:Cm c l S)(s:Bz)(n:Int):∃es bs ck,qaV S .str (.map l) (.str s) (.int .i64 n)=some (S.set l (.map es bs ck))∧∀S':St,S'[l]?=some (.map es bs ck)→Cm (fun x=>if x=s then n else c x) l S':=by
 obtain ⟨ms,bs,ck,h,hc⟩:=h;have fin:∀(bs':List Nat) (ck':Nat) (S':St),S'[l]?=some (.map ((qiA ms s n).map ki) bs' ck')→Cm (fun x=>if x=s then n else c x) l S':=fun bs' ck' S' hS=>⟨_,bs',ck',hS,fun x=>by rw[qdO,hc]⟩
 unfold qaV;rw[if_pos (by rfl)];simp only[h];rcases YN s n ms 0 with ⟨h1,h2,h3⟩|⟨j,v,h1,h2,h3,h4⟩
 ·rw[h1];refine ⟨_,bs++[ck],ck+1,rfl,fun S' hS=>fin (bs++[ck]) (ck+1) S' ?_⟩;rw[h3,qrg];exact hS
 ·rw[h1];refine ⟨_,bs,ck,rfl,fun S' hS=>fin bs ck S' ?_⟩;rw[h3,List.map_set];simpa[ki] using hS
theorem Cm.keep{c:Bz→Int}{l:Nat}{S S':St}(h:Cm c l S)(hk:∀o,S[l]?=some o→S'[l]?=some o):Cm c l S':=by
 obtain ⟨ms,bs,ck,h,hc⟩:=h;exact ⟨ms,bs,ck,hk _ h,hc⟩
open Classical in
def qkp(P:Bz→Prop)(x:Bz):Bz:=if h:∃t,P t then Classical.choose h else x
def frs(x:Bz)(all:List Bz):Bz:=qkp (fun t=>zg x all t) x
theorem qdK{x:Bz}{all:List Bz}{t:Bz}(h:zg x all t):frs x all=t:=by
 have he:∃t,zg x all t:=⟨t,h⟩;unfold frs qkp;rw[dif_pos he];exact (Classical.choose_spec he).unique h
theorem qiR{x:Bz}{a b:List Bz}(h:∀y,y∈a↔y∈b):frs x a=frs x b:=by
 have:(fun t=>zg x a t)=fun t=>zg x b t:=by
  funext t;exact propext ⟨zg.same h,zg.same fun y=>(h y).symm⟩
 unfold frs;rw[this]
theorem zg.size_le{s:Bz}{taken:List Bz}{t:Bz}(h:zg s taken t)(hs:s.size≤16)(ht:taken.length≤899):t.size≤16:=by
 by_cases hm:s∈taken
 ·obtain ⟨n,h1,h2,h3,h4⟩:=QT s taken ht;rw[h.unique (.inr ⟨hm,n,h1,rfl,h3,h4⟩)];have hd:=qjF n (by omega);unfold YB;simp only[ByteArray.size,List.size_toArray,qrd,qsf];omega
 ·rw[h.unique (.inl ⟨hm,rfl⟩)];exact hs
def Qe:List Bz→Bz→Int
 | [],_=>0
 | y::l,x=>(if x=y then 1 else 0)+Qe l x
theorem Yh(x:Bz)(m:List Bz):∀l,Qe (l++m) x=Qe l x+Qe m x
 | []=>by simp[Qe]
 | y::l=>by rw[qrp,Qe,Qe,Yh x m l];omega
theorem J4(x:Bz):∀l,0≤Qe l x∧Qe l x≤l.length
 | []=>by simp[Qe]
 | y::l=>by
  have:=J4 x l;rw[Qe,qrk];split <;> omega
theorem qdF(x:Bz):∀l,0<Qe l x↔x∈l
 | []=>by simp[Qe]
 | y::l=>by
  have h1:=qdF x l;have h2:=J4 x l;rw[Qe,qrl];by_cases h:x=y
  ·rw[if_pos h];exact ⟨fun _=>.inl h,fun _=>by omega⟩
  ·rw[if_neg h];exact ⟨fun hh=>.inr (h1.1 (by omega)),fun hh=>by have:=h1.2 (hh.resolve_left h);omega⟩
def apN(tk fr done:List Bz)(x:Bz)(rest:List Bz):Bz:=if Q9 x tk=true then frs x (fr++(done++x::rest)++tk) else x
def apL(tk fr:List Bz):List Bz→List Bz→List Bz
 | done,[]=>done
 | done,x::rest=>apL tk fr (done++[apN tk fr done x rest]) rest
theorem YW(tk fr:List Bz):∀(rest done:List Bz),(apL tk fr done rest).length=done.length+rest.length
 | [],done=>by simp[apL]
 | x::rest,done=>by rw[apL,YW tk fr rest];simp;omega
def apD(tk fr:List Bz):List Bz→List Bz→Nat→List Bz
 | done,_,0=>done
 | done,[],_+1=>done
 | done,x::rest,i+1=>apD tk fr (done++[apN tk fr done x rest]) rest i
theorem qc2(tk fr:List Bz):∀(rest done:List Bz),apD tk fr done rest rest.length=apL tk fr done rest
 | [],done=>rfl
 | x::rest,done=>by rw[qrk,apD,apL,qc2 tk fr rest]
theorem kz(tk fr:List Bz):∀(rest done:List Bz) (i:Nat),i≤rest.length→(apD tk fr done rest i).length=done.length+i
 | _,done,0,_=>by simp[apD]
 | [],done,i+1,h=>by simp at h
 | x::rest,done,i+1,h=>by
  rw[apD,kz tk fr rest _ i (by simpa using h)];simp;omega
theorem qdz(tk fr:List Bz):∀(rest done:List Bz) (i:Nat) (h:i<rest.length),apD tk fr done rest (i+1)=apD tk fr done rest i++[apN tk fr (apD tk fr done rest i) rest[i] (rest.drop (i+1))]
 | [],_,_,h=>by simp at h
 | x::rest,done,0,h=>by simp[apD]
 | x::rest,done,i+1,h=>by
  rw[apD,qdz tk fr rest _ i (by simpa using h)];rfl
def lf(l:List Bz)(k:Nat):Bz:=(l[k]?).getD ⟨⟨[]⟩⟩
theorem qiv{tk fr done rest:List Bz}{x:Bz}(hx:x.size≤16)(hl:(fr++(done++x::rest)++tk).length≤899):(apN tk fr done x rest).size≤16:=by
 unfold apN;split
 ·obtain ⟨t,ht⟩:=zg.exists x _ hl;rw[qdK ht];exact ht.size_le hx hl
 ·exact hx
theorem qcB(tk fr:List Bz):∀(rest done:List Bz),(∀x,x∈done→x.size≤16)→(∀x,x∈rest→x.size≤16)→fr.length+done.length+rest.length+tk.length≤899→∀x,x∈apL tk fr done rest→x.size≤16
 | [],done,h,_,_=>by rw[apL];exact h
 | y::rest,done,h,g,hl=>by
  rw[apL];rw[qrk] at hl;refine qcB tk fr rest _ (fun x hx=>?_) (fun x hx=>g x (qrV _ hx)) (by simp;omega);rcases qq0.1 hx with hx|hx
  ·exact h x hx
  ·simp at hx;subst hx;exact qiv (g y (by simp)) (by simp;omega)
end Go.Proofs.YtbifpocccfkhhaaGreatDoor

end
