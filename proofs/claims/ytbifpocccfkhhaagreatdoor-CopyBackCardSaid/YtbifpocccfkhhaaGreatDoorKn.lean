/- The statement CopyBack holds: for every statement and two names the law returns true and changes nothing. -/
import Derived.Test.YtbifpocccfkhhaaGreatDoorKm
set_option linter.all false
noncomputable section
namespace Go.Proofs.YtbifpocccfkhhaaGreatDoor
open Go
theorem qig(n:Nat):∃l d,d<10∧dig n=l++[UInt8.ofNat (48+d)]:=by
 by_cases h:n<10
 ·exact ⟨[],n,h,z6 h⟩
 ·exact ⟨dig (n / 10),n % 10,by omega,Qa h⟩
theorem qmA{d:Nat}(h:d<10):(UInt8.ofNat (48+d)).toNat=48+d:=by
 have:(48+d) % 256=48+d:=Nat.mod_eq_of_lt (by omega);simp[this]
theorem qgW{d:Nat}(h:d<10):isD (UInt8.ofNat (48+d)).toNat=true:=by
 rw[qmA h];unfold isD;simp;omega
theorem kh{d:Nat}(h:d<10):Jq (UInt8.ofNat (48+d))=true:=by unfold Jq;rw[qgW h,Bool.or_true]
theorem qjs:∀(m n:Nat),n≤m→∀b,b∈dig n→Jq b=true
 | m,n,hm,b,hb=>by
  by_cases h:n<10
  ·rw[z6 h] at hb;simp only[qrN] at hb;rw[hb];exact kh h
  ·rw[Qa h] at hb;rcases qq0.1 hb with hb|hb
   ·cases m with
    | zero=>omega
    | succ m=>exact qjs m (n / 10) (by omega) b hb
   ·simp only[qrN] at hb;rw[hb];exact kh (by omega)
def qj4(b:Bz):Bool:=match b.data.toList.reverse with
 | c::_=>isD c.toNat
 | []=>false
theorem qiZ:wds.all (fun w=>!qj4 w)=true:=by kernel_rfl
theorem qhg(x:Bz)(n:Nat):qj4 (YB x n)=true:=by
 obtain ⟨l,d,hd,hl⟩:=qig n;unfold qj4 YB;simp only[hl,←qrc,List.reverse_append,List.reverse_cons,List.reverse_nil,qr9,qrp];exact qgW hd
theorem qcm{x:Bz}(hx:qb x=true){n:Nat}(hn:n<10000):qb (YB x n)=true:=by
 have hd:=qhj hn
 have hw:Q9 (YB x n) wds=false:=by
  rw[Yp];intro hm;have:=qri.1 qiZ _ hm;rw[qhg] at this;cases this
 unfold qb at hx ⊢;simp only[qq5,qsK,decide_eq_true_eq] at hx ⊢;obtain ⟨⟨⟨⟨h1,h2⟩,h3⟩,_⟩,h5⟩:=hx;have hlen:x.data.toList.length=x.size:=qr0;refine ⟨⟨⟨⟨?_,?_⟩,?_⟩,hw⟩,?_⟩
 ·unfold YB;simp only[ByteArray.size,List.size_toArray,qrd];omega
 ·unfold YB;simp only[ByteArray.size,List.size_toArray,qrd,qsf];simp only[ByteArray.size] at hlen h2 ⊢;omega
 ·unfold YB;show qiH (List.take _ _++_)=true;obtain ⟨m,hm⟩:∃m,min x.size (16 - (dig n).length)=m+1:=⟨min x.size (16 - (dig n).length) - 1,by omega⟩;rw[hm]
  cases hc:x.data.toList with
  | nil=>rw[hc] at hlen;simp at hlen;omega
  | cons c r=>
   rw[hc] at h3;exact h3
 ·unfold YB qbD at *;rw[qri] at h5 ⊢;intro b hb;rcases qq0.1 hb with hb|hb
  ·exact h5 b (List.mem_of_mem_take hb)
  ·exact qjs n n (qqY _) b hb
theorem zg.nm{s:Bz}{taken:List Bz}{t:Bz}(h:zg s taken t)(hs:qb s=true)(ht:taken.length≤899):qb t=true:=by
 by_cases hm:s∈taken
 ·obtain ⟨n,h1,h2,h3,h4⟩:=QT s taken ht;rw[h.unique (.inr ⟨hm,n,h1,rfl,h3,h4⟩)];exact qcm hs (by omega)
 ·rw[h.unique (.inl ⟨hm,rfl⟩)];exact hs
theorem qnZ{tk fr done rest:List Bz}{x:Bz}(hx:qb x=true)(hl:(fr++(done++x::rest)++tk).length≤899):qb (apN tk fr done x rest)=true:=by
 unfold apN;split
 ·obtain ⟨t,ht⟩:=zg.exists x _ hl;rw[qdK ht];exact ht.nm hx hl
 ·exact hx
theorem qjT(tk fr:List Bz):∀(rest done:List Bz),(∀x,x∈done→qb x=true)→(∀x,x∈rest→qb x=true)→fr.length+done.length+rest.length+tk.length≤899→∀x,x∈apL tk fr done rest→qb x=true
 | [],done,h,_,_=>by rw[apL];exact h
 | y::rest,done,h,g,hl=>by
  rw[apL];rw[qrk] at hl;refine qjT tk fr rest _ (fun x hx=>?_) (fun x hx=>g x (qrV _ hx)) (by simp;omega);rcases qq0.1 hx with hx|hx
  ·exact h x hx
  ·simp at hx;subst hx;exact qnZ (g y (by simp)) (by simp;omega)
section
variable {s:Sm} {taken:List Bz} (va:(Pa.st s).valid qb=true) (hl:s.frees.length+Sm.nb1 [s]+taken.length≤899)
include va hl
theorem Sm.aps_nm:∀x,x∈s.aps taken→qb x=true:=by
 refine qjT _ _ _ _ (fun x hx=>by simp at hx) (fun x hx=>s.bounds_nm va x hx) ?_;have h1:=Qz (l:=taken) (ks:=[]);have h3:=s.bounds_len;simp only[qrX] at h1 ⊢;omega
theorem Sm.ap_valid:(Pa.st (s.ap taken)).valid qb=true:=by
 have hi:=s.aps_ok (taken:=taken) hl;refine Sm.w_valid (Sm.aps_h1 va hl) (fun k hk=>?_) s _ _ (Sm.whole_bs va hl) (Sm.bn_agr va hl) va
 cases hb:s.bounds[k]? with
 | none=>
  unfold lf at hk;rw[hb] at hk;exact absurd rfl (Jd hk)
 | some x=>
  have h1:=(qqT.1 hb).1;have h2:k<(s.aps taken).length:=by rw[hi.len];exact h1
  rw[qd4 (qqZ h2)];exact Sm.aps_nm va hl _ (qra h2)
theorem Sm.ap_err(hf:(Pa.st s).fits):(Pa.st (s.ap taken)).err qb=0:=by
 unfold Pa.err;rw[if_pos (show (Pa.st (s.ap taken)).fits from Sm.whole_fits _ s hf),if_pos (Sm.ap_valid va hl)]
end
open Go.Proofs.Tryz
def sE(s:Sm)(l:List Bz)(xs:List Ex):Int:=if (Pa.st s).err qb≠0 then (Pa.st s).err qb else if prE l xs≠0 then prE l xs else suE s l (l.zip xs)
def sV(s:Sm)(l:List Bz)(xs:List Ex):V:=if sE s l xs=0 then (suO s l (l.zip xs)).v else smZ
theorem qng(s:Sm)(hs:s.ok)(hsz:(Pa.st s).size≤4000)(b b':Bool)(l:List Bz)(xs:List Ex)(hl:l.length≤1000)(hx:xs.length≤1000)(hz:∀x,x∈xs→(Pa.ex x).size≤4000)(ho:∀x,x∈xs→x.ok)
  (hfr:s.frees.length+Sm.nb1 [s]+(suT l (l.zip xs)).length≤899) (S:St):
  qt prog 32 [s.v,.sl b (l.map .str),.sl b' (xs.map Ex.v)] S (fun r U=>r=.tup [sV s l xs,.int .i64 (sE s l xs)]∧Kp (fun _=>False) S U):=by
 refine qt.ib func32 ok32 ?_;obtain ⟨S1,hS1⟩:∃S1:St,S1=S++[.arr [s.v] 8 1,.arr [smZ] 8 1]:=⟨_,rfl⟩;have b0:S1[S.length]?=some (.arr [s.v] 8 1):=by rw[hS1];simp
 have b1:S1[S.length+1]?=some (.arr [smZ] 8 1):=by rw[hS1,qqU (by omega)];simp
 have kS:Kp (fun _=>False) S S1:=by rw[hS1];exact (Kp.refl _ _).push _
 have d0:ldS S1 (.ptr S.length 0 0 1) (some 8)=some s.v:=by simp[ldS,b0]
 have he:sE s l xs=if (Pa.st s).err qb≠0 then (Pa.st s).err qb else if prE l xs≠0 then prE l xs else suE s l (l.zip xs):=rfl
 have hv:sV s l xs=if sE s l xs=0 then (suO s l (l.zip xs)).v else smZ:=rfl
 have fin:∀(Y:St) (y:V) (e:Int) (ev:Env),Kp (fun _=>False) S1 Y→sV s l xs=y→sE s l xs=e→ev.get 6=some (.ptr (S.length+1) 0 0 1)→ev.get 7=some (.int .i64 e)→V.part y 0 (some 8)=some y→
   JQ [.cell 6 (some 8),.t 7] S.length (fun r U=>r=.tup [sV s l xs,.int .i64 (sE s l xs)]∧Kp (fun _=>False) S U) .ret ev (Y.set (S.length+1) (.arr [y] 8 1)):=fun Y y e ev kY hy he g6 g7 hp=>by
  have h1:=kY.at b1 id;have h2:(Y.set (S.length+1) (.arr [y] 8 1))[S.length+1]?=some (.arr [y] 8 1):=qqV (glt h1);exact qf (vs:=[y,.int .i64 e]) (by simp[rvs,g6,g7,ldS,h2,hp]) ⟨by rw[hy,he];rfl,(kS.trans kY).set _ (.inr (by omega))⟩
 simp[c32,qG];rw[←hS1];simp[d0];refine qg (jU s hs S1) ?_;by_cases h0:(Pa.st s).err qb=0
 case neg=>
  rw[if_pos h0] at he;rw[he,if_neg h0] at hv;simp[h0,qB,qF,stS,b1,qh];refine fin _ smZ _ _ (Kp.refl _ _) hv he ?_ ?_ rfl <;> simp
 rw[if_neg (by rw[h0];simp)] at he;have va:=(qI h0).2;simp[h0];refine qi (qn9 b b' l xs hl hx ho S1) ?_;rintro r U ⟨kU,⟨hp,rfl⟩|⟨hp,m,bs,ck,hm,rfl,hst,hmU⟩⟩
 ·have c1:=kU.at b1 id;rw[if_pos hp] at he;rw[he,if_neg hp] at hv;simp[hp,qB,qF,stS,c1,qh];refine fin _ smZ _ _ kU hv he ?_ ?_ rfl <;> simp
 ·rw[if_neg (by rw[hp];simp)] at he;have c0:=kU.at b0 id;have dU:ldS U (.ptr S.length 0 0 1) (some 8)=some s.v:=by simp[ldS,c0]
  simp[dU];refine qi (qn2 s hs va hsz b l (l.zip xs) hl (fun e he=>hz _ (List.of_mem_zip (a:=e.1) (b:=e.2) he).2) (fun e he=>ho _ (List.of_mem_zip (a:=e.1) (b:=e.2) he).2) hfr m bs ck hst.1 hst.2 U hmU) ?_;rintro r U2 ⟨rfl,kU2⟩;have c1:=(kU.trans kU2).at b1 id;have hvv:sV s l xs=suV s l (l.zip xs):=by rw[hv,he];rfl
  obtain ⟨y,hy⟩:∃y,y=suV s l (l.zip xs):=⟨_,rfl⟩
  have hyp:V.part y 0 (some 8)=some y∧V.upd smZ 0 8 y=some y:=by
   rw[hy];unfold suV;split
   ·exact ⟨ZY _,by unfold smZ;rw[qh];simp⟩
   ·exact ⟨rfl,rfl⟩
  have hy2:=hyp.2;unfold smZ at hy2 c1;rw[←hy];simp[stS,c1,hy2];refine fin _ y _ _ (kU.trans kU2) (hvv.trans hy.symm) he ?_ ?_ hyp.1 <;> simp
mutual
theorem Ex.occ_nm{nm:Bz→Bool}:∀x:Ex,(Pa.ex x).valid nm=true→∀z,z∈x.occ→nm z=true
 | .mk k o n m e t a,v,z,hz=>by
  have va:=Ex.valid_args v;simp only[Ex.args] at va;rw[Ex.occ] at hz;rcases qq0.1 hz with hz|hz
  ·exact Ex.occl_nm a va z hz
  ·split at hz
   ·rename_i hn;simp at hz;rw[hz];exact Ex.valid_text v hn
   ·cases hz
theorem Ex.occl_nm{nm:Bz→Bool}:∀l:List Ex,(∀x,x∈l→(Pa.ex x).valid nm=true)→∀z,z∈Ex.occl l→nm z=true
 | [],_,z,hz=>by rw[Ex.occl] at hz;cases hz
 | x::l,v,z,hz=>by
  rw[Ex.occl] at hz;rcases qq0.1 hz with hz|hz
  ·exact Ex.occ_nm x (v x (by simp)) z hz
  ·exact Ex.occl_nm l (fun y hy=>v y (by simp[hy])) z hz
end
theorem Ex.occ_one{nm:Bz→Bool}{x:Ex}(v:(Pa.ex x).valid nm=true)(h:x.kind=6):x.occ=[x.text]:=by
 cases x with
 | mk k o n m e t a=>
  simp only[Ex.kind] at h;subst h;have h1:=(Pa.valid_iff.1 v).1;simp[Pa.vOwn,Ex.vOwn] at h1;have ha:a=[]:=by simp[h1]
  subst ha;rw[Ex.occ,if_pos (by rfl),Ex.occl];rfl
theorem Sm.free_ev{nm:Bz→Bool}(s:Sm)(v:(Pa.st s).valid nm=true){x:Bz}(h:x∈s.frees):∃e,e∈s.evs∧e.2.at e.1=none∧e.1=x:=by
 rw[Sm.mem_frees,Sm.fsto_evs s v] at h;obtain ⟨e,he,hx⟩:=qr6.1 h;unfold frO at hx;split at hx
 ·rename_i hn;simp at hx;exact ⟨e,he,hn,hx.symm⟩
 ·cases hx
theorem jD{g:Nat→Bz}{e:Oc}(h:e.2.at e.1=none):zH g e.2 e.1=e.1:=by unfold zH;rw[h]
theorem Sm.frees_occ(s:Sm)(v:(Pa.st s).valid qb=true)(z:Bz):z∈s.frees↔qb z=true∧z∈(s.whole yn).occ:=by
 rw[Sm.mem_frees,Sm.free_occ (f:=yn) ZG s v,qrR,and_comm]
section
variable {s:Sm} {es:List Ae} (va:(Pa.st s).valid qb=true) (he:∀e,e∈es→qb e.1=true∧(Pa.ex e.2).valid qb=true)
include va he
theorem qiQ(k:Nat):lkL es (yn k)=none:=by
 cases h:lkL es (yn k) with
 | none=>rfl
 | some y=>
  have:=(he _ (Qj h)).1;rw[ZG] at this;cases this
theorem Sm.frees_sb{t:Sm}(vt:(Pa.st t).valid qb=true)(ht:t.whole yn=(s.whole yn).sb (lkL es))(hb:(s.whole yn).sbad (lkL es)=false)(z:Bz):
  z∈t.frees↔(z∈s.frees∧lkL es z=none)∨∃y a,y∈s.frees∧lkL es y=some a∧z∈a.occ:=by
 rw[t.frees_occ vt,ht,Sm.occ_whole (lk:=lkL es) (fun x y h h6=>Ex.occ_one (he _ (Qj h)).2 h6) s va hb,qr6];constructor
 ·rintro ⟨hz,e,hev,hm⟩;unfold ocO at hm
  cases hs:e.2.at e.1 with
  | some k=>
   have hr:zH yn e.2 e.1=yn k:=by unfold zH;rw[hs]
   rw[hr,qiQ va he] at hm;simp at hm;rw[hm,ZG] at hz;cases hz
  | none=>
   rw[jD hs] at hm;have hf:=s.ev_free va hev hs
   cases hy:lkL es e.1 with
   | none=>
    rw[hy] at hm;simp at hm;rw[hm];exact .inl ⟨hf,hy⟩
   | some a=>
    rw[hy] at hm;exact .inr ⟨e.1,a,hf,hy,hm⟩
 ·rintro (⟨hz,hn⟩|⟨y,a,hy,hl,hz⟩)
  ·obtain ⟨e,h1,h2,h3⟩:=s.free_ev va hz;refine ⟨s.frees_nm va hz,e,h1,?_⟩;unfold ocO;rw[jD h2,h3,hn];simp
  ·obtain ⟨e,h1,h2,h3⟩:=s.free_ev va hy;refine ⟨Ex.occ_nm a (he _ (Qj hl)).2 z hz,e,h1,?_⟩;unfold ocO;rw[jD h2,h3,hl];exact hz
end
end Go.Proofs.YtbifpocccfkhhaaGreatDoor


namespace Go.Proofs.YtbifpocccfkhhaaGreatDoor
open Go
theorem qkf{y:Bz}{x:Ex}:prE [y] [x]=0↔qb y=true∧(Pa.ex x).err qb=0:=by
 unfold prE JH qhy qhy;by_cases h:qb y=true
 ·by_cases g:(Pa.ex x).err qb=0 <;> simp[h,g]
 ·have:qb y=false:=by simpa using h
  simp[this]
theorem qgM{s:Sm}{l:List Bz}{xs:List Ex}(h:sE s l xs=0):(Pa.st s).err qb=0∧prE l xs=0∧(Pa.st (suA s l (l.zip xs))).err qb=0∧suF s l (l.zip xs)=false∧(Pa.st (suO s l (l.zip xs))).err qb=0:=by
 unfold sE at h;by_cases h0:(Pa.st s).err qb=0
 case neg=>rw[if_pos h0] at h;exact absurd h h0
 rw[if_neg (by rw[h0];simp)] at h;by_cases h1:prE l xs=0
 case neg=>rw[if_pos h1] at h;exact absurd h h1
 rw[if_neg (by rw[h1];simp)] at h;unfold suE at h;by_cases h2:(Pa.st (suA s l (l.zip xs))).err qb=0
 case neg=>rw[if_pos h2] at h;exact absurd h h2
 rw[if_neg (by rw[h2];simp)] at h
 cases h3:suF s l (l.zip xs) with
 | true=>rw[h3] at h;simp at h
 | false=>
  rw[h3] at h;exact ⟨h0,h1,h2,rfl,by simpa using h⟩
theorem qoF{s:Sm}{y:Bz}{x:Ex}(h:sE s [y] [x]=0):(Pa.st s).err qb=0∧prE [y] [x]=0∧(Pa.st (suA s [y] [(y,x)])).err qb=0∧suF s [y] [(y,x)]=false∧(Pa.st (suO s [y] [(y,x)])).err qb=0:=qgM h
def qjL(es:List Ae):Prop:=∀e,e∈es→qb e.1=true∧(Pa.ex e.2).valid qb=true
theorem qjL.lk{es:List Ae}(h:qjL es)(k:Nat):lkL es (yn k)=none:=by
 cases hl:lkL es (yn k) with
 | none=>rfl
 | some y=>
  have:=(h _ (Qj hl)).1;rw[ZG] at this;cases this
theorem qjL.v{es:List Ae}(h:qjL es)(x:Bz)(y:Ex)(hl:lkL es x=some y):(Pa.ex y).valid qb=true:=(h _ (Qj hl)).2
theorem qqK(s:Sm)(l:List Bz)(xs:List Ex):(sV s l xs).size=8∧(sV s l xs).cells.all V.flat=true∧V.part (sV s l xs) 0 (some 8)=some (sV s l xs):=by
 unfold sV;split
 ·exact ⟨Sm.v_size _,by simp,ZY _⟩
 ·exact ⟨rfl,rfl,rfl⟩
theorem qoG(s:Sm)(y:Bz)(x:Ex)(os:s.ok)(ox:x.ok)(va:(Pa.st s).valid qb=true)(hl:s.frees.length+Sm.nb1 [s]+(suT [y] [(y,x)]).length≤899):(suO s [y] [(y,x)]).ok:=
 Sm.wholeR_ok (qjr (fun e he=>by simp at he;rw[he];exact ox)) _ (Sm.ap_ok2 s os va hl)
theorem Sm.nb1_le(t:Sm):Sm.nb1 [t]≤(Pa.st t).size:=by
 have h2:=Sm.nb1_size [t];simp at h2;omega
theorem stZ{z:V}(z8:z.size=8∧z.cells.all V.flat=true∧V.part z 0 (some 8)=some z)(U:St):
 stS (U++[.arr [.agg [.sl true [],.int .i64 0,.str ⟨⟨[]⟩⟩,.sl true [],.sl true [],.sl true [],.sl true [],.sl true []]] 8 1]) (.ptr U.length 0 0 1) 8 z=some (U++[.arr [z] 8 1]):=by simp[stS,qh,z8]
theorem ldZ{z:V}(z8:z.size=8∧z.cells.all V.flat=true∧V.part z 0 (some 8)=some z){U W:St}(k:Kp (fun _=>False) (U++[.arr [z] 8 1]) W):ldS W (.ptr U.length 0 0 1) (some 8)=some z:=by
 have c:=k.at (l:=U.length) (o:=.arr [z] 8 1) (by simp) id;simp[ldS,c,z8]
structure SuOk(s:Sm)(l:List Bz)(es:List Ae):Prop where
 b:(s.whole yn).sbad (lkL es)=false
 w:(suO s l es).whole yn=(s.whole yn).sb (lkL es)
 v:(Pa.st (suO s l es)).valid qb=true
section
variable {s:Sm} {l:List Bz} {es:List Ae} (va:(Pa.st s).valid qb=true) (he:qjL es) (hl:s.frees.length+Sm.nb1 [s]+(suT l es).length≤899)
include va he hl
theorem qnv(hb:(s.whole yn).sbad (lkL es)=false):SuOk s l es:=by
 have ha:(Pa.st (suA s l es)).valid qb=true:=Sm.ap_valid va hl;have hf:suF s l es=false:=by rw[qg6 va hl he.lk ha,hb]
 refine ⟨hb,qoQ va hl he.lk ha hf,?_⟩;refine Sm.wholeR_valid (g:=yn) he.lk he.v _ ha ?_;rw[suA,Sm.ap_alike va hl,hb]
theorem qfM:suF s l es=(s.whole yn).sbad (lkL es):=qg6 va hl he.lk (Sm.ap_valid va hl)
omit he in
theorem qpH:Sm.nb1 [suO s l es]=Sm.nb1 [s]:=by
 have ha:(Pa.st (suA s l es)).valid qb=true:=Sm.ap_valid va hl
 have h1:(suO s l es).nb=s.nb:=by
  unfold suO Sm.wholeR;rw[Sm.nb_wr Jm _ _ _ ha];exact Sm.ap_nb va hl
 have h2:(qd (suO s l es).labels 0).length=(qd s.labels 0).length:=by
  unfold suO Sm.wholeR;rw[Sm.wr_labels Jm,suA,Sm.ap_bind0 va hl,Qg]
 simp only[Sm.nb1,h1,h2]
end
theorem qnY{s:Sm}{l:List Bz}{xs:List Ex}(h0:(Pa.st s).err qb=0)(hp:prE l xs=0)(he:qjL (l.zip xs))(hl:s.frees.length+Sm.nb1 [s]+(suT l (l.zip xs)).length≤899)(hb:(s.whole yn).sbad (lkL (l.zip xs))=false):sE s l xs=0∨sE s l xs=2:=by
 have va:=(qI h0).2;have ha:(Pa.st (suA s l (l.zip xs))).err qb=0:=Sm.ap_err va hl (qI h0).1;have ho:=qnv va he hl hb;unfold sE;rw[if_neg (by rw[h0];simp),if_neg (by rw[hp];simp)];unfold suE;rw[if_neg (by rw[ha];simp),qfM va he hl,hb,if_neg (by simp)];unfold Pa.err;rw[if_pos ho.v];split
 ·exact .inl rfl
 ·exact .inr rfl
section
variable (a b:Bz)
def rnT(sc:Scs)(x:Bz):Bz:=if x=a∧sc.at x=none then b else x
def rnH(sc:Scs)(x:Bz)(h:Bool):Bool:=if x=a∧sc.at x=none then h || (sc.at b).isSome else h
def rnP:Pw where
 H:=Bool
 f _ x:=x
 nm:=some fun x sc _=>.mk x.kind x.op x.n x.man x.exp (rnT a b sc x.text) x.args
 cl:=some fun x sc=>rnT a b sc x
 ent h _ _:=h
 nmH h x sc _:=rnH a b sc x.text h
 clH h x sc:=rnH a b sc x h
def rnR:Rp:=⟨[],[a],[.mk 6 0 0 0 0 b []]⟩
theorem qfH(sc:Scs)(x:Bz):ZF (rnP a b) sc x=x:=by unfold ZF;cases sc.at x <;> rfl
theorem qaB(sc:Scs)(x:Bz):qdc (rnR a b) sc x=x:=by unfold qdc;cases sc.at x <;> simp[rnR]
theorem qjG(sc:Scs)(x:Bz):rmt (rnR a b) sc x=if x=a∧sc.at x=none then some (.mk 6 0 0 0 0 b []) else none:=by
 unfold rmt mt rnR
 cases hs:sc.at x with
 | some k=>simp
 | none=>
  simp only[mtL];by_cases h:a=x
  ·subst h;simp
  ·have:¬ x=a:=fun hh=>h hh.symm
   simp[h,this]
theorem qdi(sc:Scs)(x:Bz):jb (rnR a b) sc x=rnT a b sc x:=by
 unfold jb rnT;rw[qjG];by_cases h:x=a∧sc.at x=none
 ·rw[if_pos h,if_pos h];rfl
 ·rw[if_neg h,if_neg h];exact qaB a b sc x
theorem qjk(sc:Scs)(l:List Bz):l.map (ZF (rnP a b) sc)=l.map (qdc (rnR a b) sc):=qrx fun x _=>(qfH a b sc x).trans (qaB a b sc x).symm
variable {nm:Bz→Bool}
mutual
theorem Ex.rn(sc:Scs)(tg:Bool):∀x:Ex,(Pa.ex x).valid nm=true→Ex.wr (rnP a b) sc tg x=Ex.rw (rnR a b) sc x
 | .mk k o n m e t l,v=>by
  have va:=Ex.valid_args v;simp only[Ex.args] at va;have h1:=(Pa.valid_iff.1 v).1;rw[Ex.wr,Ex.rw,Ex.rnl sc false l va];by_cases h6:k=6
  ·subst h6;simp[Pa.vOwn,Ex.vOwn] at h1;obtain ⟨⟨⟨⟨_,rfl⟩,rfl⟩,rfl⟩,rfl,rfl⟩:=h1;rw[if_pos rfl,qjG];show Ex.mk 6 0 0 0 0 (rnT a b sc t) (Ex.rwl (rnR a b) sc [])=_;unfold rnT;by_cases h:t=a∧sc.at t=none
   ·rw[if_pos h,if_pos h];rfl
   ·rw[if_neg h,if_neg h,qaB];rfl
  ·rw[if_neg h6];by_cases h78:k=7∨k=8
   ·have hn:Ex.named k=true:=by unfold Ex.named;rcases h78 with rfl|rfl <;> rfl
    rw[if_pos h78,qdi];show (if Ex.named k=true then _ else _)=_;rw[if_pos hn];rfl
   ·have hn:Ex.named k=false:=by unfold Ex.named;simp;omega
    rw[if_neg h78];show (if Ex.named k=true then _ else _)=_;rw[hn];rfl
theorem Ex.rnl(sc:Scs)(tg:Bool):∀l:List Ex,(∀x,x∈l→(Pa.ex x).valid nm=true)→Ex.wrl (rnP a b) sc tg l=Ex.rwl (rnR a b) sc l
 | [],_=>rfl
 | x::l,v=>by rw[Ex.wrl,Ex.rwl,Ex.rn sc tg x (v x (by simp)),Ex.rnl sc tg l fun y hy=>v y (by simp[hy])]
end
theorem El.rn(sc:Scs)(e:El)(v:(Pa.el e).valid nm=true):e.wr (rnP a b) sc=e.rw (rnR a b) sc:=by
 unfold El.wr El.rw;rw[Ex.rnl a b sc false e.exps fun x hx=>(Pa.valid_iff.1 v).2 _ (by simp only[Pa.kids,qrf];exact ⟨x,hx,rfl⟩)]
theorem Fo.rn(sc:Scs)(x:Fo):x.wr (rnP a b) sc=x.rw (rnR a b) sc:=by
 unfold Fo.wr Fo.rw;rw[qfH,qaB]
mutual
theorem Sm.rn:∀(s:Sm) (sc:Scs) (n:Nat),(Pa.st s).valid nm=true→s.wr (rnP a b) sc n=s.rw (rnR a b) sc n
 | .mk l k t gs e hh d c,sc,n,v=>by
  obtain ⟨v7,v8,v9⟩:=Sm.valid_block v;have vd:=Sm.valid_decls v;have vb:=Sm.valid_body v;have vg:=Sm.valid_targets v;have ve:=Sm.valid_exps v;have vh:=Sm.valid_elems v;simp only[Sm.decls,Sm.body,Sm.targets,Sm.exps,Sm.elems] at vd vb vg ve vh;rw[Sm.wr,Sm.rw,qjk];by_cases h7:k=7
  ·obtain ⟨rfl,rfl,rfl⟩:=v7 h7;rw[if_pos h7,if_pos h7,De.rnl d _ _ _ vd,Sm.rnl c _ _ vb];rfl
  ·rw[if_neg h7,if_neg h7];by_cases h8:k=8
   ·obtain ⟨rfl,rfl,rfl,rfl⟩:=v8 h8;rw[if_pos h8,if_pos h8,Sm.rnl c _ _ vb];rfl
   ·obtain rfl:=v9 h7 h8
    have ht:(rnP a b).clE sc k t=if k=6 then jb (rnR a b) sc t else t:=by
     rw[qdi];unfold Pw.clE;rfl
    rw[if_neg h8,if_neg h8,Ex.rnl a b sc true gs vg,Ex.rnl a b sc false e ve,Sm.rn1 c _ _ vb,qrx fun x hx=>El.rn a b sc x (vh x hx),ht]
theorem De.rn:∀(s:De) (own sc:Scs) (n:Nat),(Pa.de s).valid nm=true→s.wr (rnP a b) own sc n=s.rw (rnR a b) own sc n
 | .mk k o t ns e fo c,own,sc,n,v=>by
  have vb:=De.valid_body v;have ve:=De.valid_exps v;simp only[De.body,De.exps] at vb ve;rw[De.wr,De.rw,qjk];by_cases h4:k=4
  ·rw[if_pos h4,if_pos h4,Ex.rnl a b own false e ve,Sm.rn1 c _ _ vb,qrx fun x _=>Fo.rn a b _ x]
  ·rw[if_neg h4,if_neg h4,Ex.rnl a b _ false e ve]
theorem De.rnl:∀(l:List De) (own sc:Scs) (n:Nat),(∀x,x∈l→(Pa.de x).valid nm=true)→De.wrl (rnP a b) own sc n l=De.rwl (rnR a b) own sc n l
 | [],_,_,_,_=>rfl
 | x::l,own,sc,n,v=>by rw[De.wrl,De.rwl,De.rn x own sc n (v x (by simp)),De.rnl l own sc _ fun y hy=>v y (by simp[hy])]
theorem Sm.rnl:∀(l:List Sm) (sc:Scs) (n:Nat),(∀x,x∈l→(Pa.st x).valid nm=true)→Sm.wrl (rnP a b) sc n l=Sm.rwl (rnR a b) sc n l
 | [],_,_,_=>rfl
 | x::l,sc,n,v=>by rw[Sm.wrl,Sm.rwl,Sm.rn x sc n (v x (by simp)),Sm.rnl l sc _ fun y hy=>v y (by simp[hy])]
theorem Sm.rn1:∀(l:List Sm) (sc:Scs) (n:Nat),(∀x,x∈l→(Pa.st x).valid nm=true)→Sm.wr1 (rnP a b) sc n l=Sm.rw1 (rnR a b) sc n l
 | [],_,_,_=>rfl
 | x::l,sc,n,v=>by rw[Sm.wr1,Sm.rw1,Sm.rn x _ _ (v x (by simp)),Sm.rn1 l sc _ fun y hy=>v y (by simp[hy])]
end
theorem Sm.whole_rn(s:Sm)(v:(Pa.st s).valid nm=true):s.wholeR (rnP a b)=s.wholeQ (rnR a b):=Sm.rn a b s _ _ v
def rnQ(e:Oc):Bool:=decide (e.1=a∧e.2.at e.1=none) && (e.2.at b).isSome
def rnb(h:(rnP a b).H):Bool:=h
theorem qjQ(sc:Scs)(x:Bz)(h:Bool):rnH a b sc x h=(h || rnQ a b (x,sc)):=by
 unfold rnH rnQ;by_cases hh:x=a∧sc.at x=none
 ·obtain ⟨rfl,h2⟩:=hh;rw[if_pos ⟨rfl,h2⟩];simp[h2]
 ·rw[if_neg hh];simp[hh]
theorem qjP:Obs (rnP a b) Bool (rnb a b) (fun h e=>h || rnQ a b e) where
 nm h:=by cases h
 cl h:=by cases h
 n h x sc tg:=qjQ a b sc x.text h
 c h x sc:=qjQ a b sc x h
 e h k x:=rfl
theorem qhm:∀(sc:Scs) (x:Bz),(sc.at x).isSome=(Scs.flat sc).any fun p=>decide (p.1=x)
 | [],x=>rfl
 | s::r,x=>by
  have ih:=qhm r x;unfold Scs.at Scs.flat;rw[List.any_append,←ih]
  have h1:(Sco.at s x).isSome=s.any fun p=>decide (p.1=x):=by
   unfold Sco.at;rw[Option.isSome_map,qrz,List.find?_isSome];simp
  rw[←h1];cases Sco.at s x <;> simp
theorem qgU:Robs (rnR a b) (fun st=>st.caught=true) (fun e=>rnQ a b e=true) where
 u sc x st:=by
  have hm:mt (rnR a b) x=if x=a then some (.mk 6 0 0 0 0 b []) else none:=by
   unfold mt rnR;simp only[mtL];by_cases h:a=x
   ·subst h;simp
   ·have:¬ x=a:=fun hh=>h hh.symm
    simp[h,this]
  unfold qnB rnQ
  cases hs:sc.at x with
  | some k=>simp[hs]
  | none=>
   simp only[hm,hs];by_cases h:x=a
   ·rw[if_pos h];show (st.caught || (decide ((6:Int)=6) && (Scs.flat sc).any fun p=>decide (p.1=b)))=true↔st.caught=true∨(decide (x=a∧True) && (sc.at b).isSome)=true;rw[←qhm];simp[h]
   ·rw[if_neg h];simp[h]
 b st c:=Iff.rfl
theorem qdy{q:Oc→Bool}:∀(l:List Oc) (h:Bool),l.foldl (fun h e=>h || q e) h=true↔h=true∨qaL (fun e=>q e=true) l
 | [],h=>by simp[Qb]
 | e::l,h=>by
  rw[qsD,qdy l];have:qaL (fun e=>q e=true) (e::l)↔q e=true∨qaL (fun e=>q e=true) l:=(zI (l:=[e])).trans (or_congr_left JR);rw[this,qsL,or_assoc]
theorem Sm.caught_rn(s:Sm)(v:(Pa.st s).valid nm=true)(sc:Scs)(n:Nat)(h:(rnP a b).H)(st:Rst)(h0:rnb a b h=st.caught):rnb a b (Sm.hs (rnP a b) sc n h s)=(s.rs (rnR a b) sc n st).caught:=by
 have h1:=(qjP a b).sm s sc n h v;have h2:=(qgU a b).sm s sc n st v;rw[qrz,h1,qdy,h2,h0]
end
def nmX(b:Bz):Ex:=.mk 6 0 0 0 0 b []
def lkN(a b:Bz):Lk:=lkL [(a,nmX b)]
section
variable (a b:Bz)
theorem jR(t:Bz):lkN a b t=if a=t then some (nmX b) else none:=rfl
theorem qb9(sc:Scs)(t:Bz):rnT a b sc t=sbT (lkN a b) sc t:=by
 unfold rnT sbT
 cases hs:sc.at t with
 | some k=>simp
 | none=>
  simp only[and_true];unfold sbn;rw[jR];by_cases h:a=t
  ·rw[if_pos h,if_pos h.symm];rfl
  ·rw[if_neg h,if_neg fun e=>h e.symm]
theorem Jx:∀(k:Nat) (x:Bz),(rnP a b).f k x=x:=fun _ _=>rfl
theorem Ex.wr_rn(sc:Scs)(tg:Bool)(k o n m e:Int)(t:Bz)(l:List Ex):Ex.wr (rnP a b) sc tg (.mk k o n m e t l)=.mk k o n m e (if Ex.named k=true then rnT a b sc t else t) (Ex.wrl (rnP a b) sc false l):=by
 have h:Ex.wr (rnP a b) sc tg (.mk k o n m e t l)=if Ex.named k=true then .mk k o n m e (rnT a b sc t) (Ex.wrl (rnP a b) sc false l) else .mk k o n m e t (Ex.wrl (rnP a b) sc false l):=by
  rw[Ex.wr];rfl
 rw[h];split <;> rfl
theorem qhc(sc:Scs)(k:Int)(t:Bz):(rnP a b).clE sc k t=if k=6 then rnT a b sc t else t:=rfl
variable {nm:Bz→Bool}
mutual
theorem Ex.rn_sb(sc:Scs)(tg:Bool):∀x:Ex,(Pa.ex x).valid nm=true→Ex.wr (rnP a b) sc tg x=Ex.wr (sbP (lkN a b)) sc tg x
 | .mk k o n m e t l,v=>by
  have va:=Ex.valid_args v;simp only[Ex.args] at va;have h1:=(Pa.valid_iff.1 v).1
  have h2:Ex.wr (sbP (lkN a b)) sc tg (.mk k o n m e t l)=if Ex.named k=true then (if k=6 then sbX (lkN a b) sc (.mk k o n m e t (Ex.wrl (sbP (lkN a b)) sc false l)) else .mk k o n m e (sbT (lkN a b) sc t) (Ex.wrl (sbP (lkN a b)) sc false l)) else .mk k o n m e t (Ex.wrl (sbP (lkN a b)) sc false l):=by
   rw[Ex.wr];rfl
  rw[h2,Ex.wr_rn,Ex.rn_sbl sc false l va];by_cases h6:k=6
  ·subst h6;simp[Pa.vOwn,Ex.vOwn] at h1;obtain ⟨⟨⟨⟨_,rfl⟩,rfl⟩,rfl⟩,rfl,rfl⟩:=h1;have hn:Ex.named 6=true:=rfl;rw[if_pos hn,if_pos hn,if_pos rfl,qb9];unfold sbX sbT;simp only[Ex.text]
   cases hs:sc.at t with
   | some j=>rfl
   | none=>
    simp only;unfold sbn;rw[jR];by_cases h:a=t
    ·rw[if_pos h];rfl
    ·rw[if_neg h];rfl
  ·rw[if_neg h6];by_cases hn:Ex.named k=true
   ·rw[if_pos hn,if_pos hn,qb9]
   ·rw[if_neg hn,if_neg hn]
theorem Ex.rn_sbl(sc:Scs)(tg:Bool):∀l:List Ex,(∀x,x∈l→(Pa.ex x).valid nm=true)→Ex.wrl (rnP a b) sc tg l=Ex.wrl (sbP (lkN a b)) sc tg l
 | [],_=>rfl
 | x::l,v=>by rw[Ex.wrl,Ex.wrl,Ex.rn_sb sc tg x (v x (by simp)),Ex.rn_sbl sc tg l fun y hy=>v y (by simp[hy])]
end
theorem El.rn_sb(sc:Scs)(e:El)(v:(Pa.el e).valid nm=true):e.wr (rnP a b) sc=e.wr (sbP (lkN a b)) sc:=by
 unfold El.wr;rw[Ex.rn_sbl a b sc false e.exps (El.valid_exps v)]
mutual
theorem Sm.rn_sb:∀(s:Sm) (sc:Scs) (n:Nat),(Pa.st s).valid nm=true→s.wr (rnP a b) sc n=s.wr (sbP (lkN a b)) sc n
 | .mk l k t gs e hh d c,sc,n,v=>by
  obtain ⟨v7,v8,v9⟩:=Sm.valid_block v;have vd:=Sm.valid_decls v;have vb:=Sm.valid_body v;have vg:=Sm.valid_targets v;have ve:=Sm.valid_exps v;have vh:=Sm.valid_elems v;simp only[Sm.decls,Sm.body,Sm.targets,Sm.exps,Sm.elems] at vd vb vg ve vh;rw[Sm.wr,Sm.wr,qL (Jx a b),qL Jm];by_cases h7:k=7
  ·rw[if_pos h7,if_pos h7,Ex.rn_sbl a b sc true gs vg,De.rn_sbl d _ _ _ vd,Sm.rn_sbl c _ _ vb]
  ·rw[if_neg h7,if_neg h7];by_cases h8:k=8
   ·rw[if_pos h8,if_pos h8,Ex.rn_sbl a b sc true gs vg,Sm.rn_sbl c _ _ vb]
   ·rw[if_neg h8,if_neg h8,Ex.rn_sbl a b sc true gs vg,Ex.rn_sbl a b sc false e ve,Sm.rn_sb1 c _ _ vb,qrx fun x hx=>El.rn_sb a b sc x (vh x hx),qhc,qfA,qb9]
theorem De.rn_sb:∀(s:De) (own sc:Scs) (n:Nat),(Pa.de s).valid nm=true→s.wr (rnP a b) own sc n=s.wr (sbP (lkN a b)) own sc n
 | .mk k o t ns e fo c,own,sc,n,v=>by
  have vb:=De.valid_body v;have ve:=De.valid_exps v;simp only[De.body,De.exps] at vb ve;rw[De.wr,De.wr,qL (Jx a b),qL Jm];by_cases h4:k=4
  ·rw[if_pos h4,if_pos h4,Ex.rn_sbl a b own false e ve,Sm.rn_sb1 c _ _ vb,Fo.wr_id (Jx a b),Fo.wr_id Jm]
  ·rw[if_neg h4,if_neg h4,Ex.rn_sbl a b _ false e ve]
theorem De.rn_sbl:∀(l:List De) (own sc:Scs) (n:Nat),(∀x,x∈l→(Pa.de x).valid nm=true)→De.wrl (rnP a b) own sc n l=De.wrl (sbP (lkN a b)) own sc n l
 | [],_,_,_,_=>rfl
 | x::l,own,sc,n,v=>by rw[De.wrl,De.wrl,De.rn_sb x own sc n (v x (by simp)),De.rn_sbl l own sc _ fun y hy=>v y (by simp[hy])]
theorem Sm.rn_sbl:∀(l:List Sm) (sc:Scs) (n:Nat),(∀x,x∈l→(Pa.st x).valid nm=true)→Sm.wrl (rnP a b) sc n l=Sm.wrl (sbP (lkN a b)) sc n l
 | [],_,_,_=>rfl
 | x::l,sc,n,v=>by rw[Sm.wrl,Sm.wrl,Sm.rn_sb x sc n (v x (by simp)),Sm.rn_sbl l sc _ fun y hy=>v y (by simp[hy])]
theorem Sm.rn_sb1:∀(l:List Sm) (sc:Scs) (n:Nat),(∀x,x∈l→(Pa.st x).valid nm=true)→Sm.wr1 (rnP a b) sc n l=Sm.wr1 (sbP (lkN a b)) sc n l
 | [],_,_,_=>rfl
 | x::l,sc,n,v=>by rw[Sm.wr1,Sm.wr1,Sm.rn_sb x _ _ (v x (by simp)),Sm.rn_sb1 l sc _ fun y hy=>v y (by simp[hy])]
end
theorem Sm.rn_sb_whole(s:Sm)(v:(Pa.st s).valid nm=true):s.wholeR (rnP a b)=s.wholeR (sbP (lkN a b)):=Sm.rn_sb a b s _ _ v
def rnO(e:Oc):Oc:=(rnT a b e.2 e.1,e.2)
def BkO(e:Oc):Prop:=rnT b a e.2 (rnT a b e.2 e.1)=e.1
mutual
theorem Ex.rn_back(sc:Scs)(tg tg':Bool):∀x:Ex,(∀e,e∈x.ev sc→BkO a b e)→(x.wr (rnP a b) sc tg).wr (rnP b a) sc tg'=x∧(x.wr (rnP a b) sc tg).ev sc=(x.ev sc).map (rnO a b)
 | .mk k o n m e t l,h=>by
  rw[Ex.ev] at h;obtain ⟨i1,i2⟩:=Ex.rn_backl sc false false l fun e he=>h e (qq6 _ he)
  rw[Ex.wr_rn,Ex.wr_rn,Ex.ev,Ex.ev,i1,i2,qrg];by_cases hn:Ex.named k=true
  ·rw[if_pos hn] at h;have ht:rnT b a sc (rnT a b sc t)=t:=h (t,sc) (by simp);rw[if_pos hn,if_pos hn,if_pos hn,if_pos hn,ht];exact ⟨rfl,rfl⟩
  ·simp only[if_neg hn,qr8,qrY,and_self]
theorem Ex.rn_backl(sc:Scs)(tg tg':Bool):∀l:List Ex,(∀e,e∈Ex.evl sc l→BkO a b e)→Ex.wrl (rnP b a) sc tg' (Ex.wrl (rnP a b) sc tg l)=l∧Ex.evl sc (Ex.wrl (rnP a b) sc tg l)=(Ex.evl sc l).map (rnO a b)
 | [],_=>⟨rfl,rfl⟩
 | x::l,h=>by
  rw[Ex.evl] at h;obtain ⟨i1,i2⟩:=Ex.rn_back sc tg tg' x fun e he=>h e (qq6 _ he)
  obtain ⟨j1,j2⟩:=Ex.rn_backl sc tg tg' l fun e he=>h e (qq9 _ he)
  rw[Ex.wrl,Ex.wrl,Ex.evl,Ex.evl,i1,i2,j1,j2,qrg];exact ⟨rfl,rfl⟩
end
theorem El.rn_backl(sc:Scs):∀l:List El,(∀e,e∈El.evl sc l→BkO a b e)→(l.map (El.wr (rnP a b) sc)).map (El.wr (rnP b a) sc)=l∧El.evl sc (l.map (El.wr (rnP a b) sc))=(El.evl sc l).map (rnO a b)
 | [],_=>⟨rfl,rfl⟩
 | x::l,h=>by
  rw[El.evl] at h;obtain ⟨i1,i2⟩:=Ex.rn_backl a b sc false false x.exps fun e he=>h e (qq6 _ he)
  obtain ⟨j1,j2⟩:=El.rn_backl sc l fun e he=>h e (qq9 _ he)
  have hx:(El.wr (rnP a b) sc x).exps=Ex.wrl (rnP a b) sc false x.exps:=rfl;rw[qq8,qq8,El.evl,El.evl,j1,j2,hx,i2,qrg];refine ⟨?_,rfl⟩;congr 1;show El.mk _ (Ex.wrl (rnP b a) sc false (Ex.wrl (rnP a b) sc false x.exps))=x;rw[i1];rfl
mutual
theorem Sm.rn_back:∀(s:Sm) (sc:Scs) (n:Nat),(Pa.st s).valid nm=true→(∀e,e∈s.ev sc n→BkO a b e)→(s.wr (rnP a b) sc n).wr (rnP b a) sc n=s∧(s.wr (rnP a b) sc n).ev sc n=(s.ev sc n).map (rnO a b)
 | .mk l k t gs e hh d c,sc,n,v,h=>by
  obtain ⟨v7,v8,v9⟩:=Sm.valid_block v;have vd:=Sm.valid_decls v;have vb:=Sm.valid_body v;simp only[Sm.decls,Sm.body] at vd vb;rw[Sm.ev] at h ⊢;by_cases h7:k=7
  ·obtain ⟨rfl,rfl,rfl⟩:=v7 h7;rw[if_pos h7] at h;obtain ⟨d1,d2⟩:=De.rn_backl d _ _ _ vd fun e he=>h e (qq6 _ he)
   obtain ⟨c1,c2⟩:=Sm.rn_backl c _ _ vb fun e he=>h e (qq9 _ he)
   rw[if_pos h7,Sm.wr,if_pos h7,Sm.wr,if_pos h7,Sm.ev,if_pos h7,qL (Jx a b),qL (Jx b a),QW (Jx a b),De.nbl_wr (Jx a b) d _ _ _ vd,d1,d2,c1,c2,qrg];exact ⟨rfl,rfl⟩
  ·rw[if_neg h7] at h ⊢;by_cases h8:k=8
   ·obtain ⟨rfl,rfl,rfl,rfl⟩:=v8 h8;rw[if_pos h8] at h;obtain ⟨c1,c2⟩:=Sm.rn_backl c _ _ vb h;rw[if_pos h8,Sm.wr,if_neg h7,if_pos h8,Sm.wr,if_neg h7,if_pos h8,Sm.ev,if_neg h7,if_pos h8,qL (Jx a b),qL (Jx b a),Sm.wrl_labels (Jx a b),c1,c2];exact ⟨rfl,rfl⟩
   ·obtain rfl:=v9 h7 h8;rw[if_neg h8] at h;obtain ⟨a1,a2⟩:=Ex.rn_backl a b sc true true gs fun x hx=>h x (by simp[hx])
    obtain ⟨b1,b2⟩:=Ex.rn_backl a b sc false false e fun x hx=>h x (by simp[hx])
    obtain ⟨c1,c2⟩:=El.rn_backl a b sc hh fun x hx=>h x (by simp[hx])
    obtain ⟨d1,d2⟩:=Sm.rn_back1 c sc n vb fun x hx=>h x (by simp[hx])
    rw[if_neg h8,Sm.wr,if_neg h7,if_neg h8,Sm.wr,if_neg h7,if_neg h8,Sm.ev,if_neg h7,if_neg h8,qL (Jx a b),qL (Jx b a),a1,a2,b1,b2,c1,c2,d1,d2,qhc,qhc];simp only[qrg];by_cases h6:k=6
    ·rw[if_pos h6] at h;have ht:rnT b a sc (rnT a b sc t)=t:=h (t,sc) (by simp);simp only[if_pos h6];rw[ht];exact ⟨rfl,rfl⟩
    ·simp only[if_neg h6,qr8,qrY,and_self]
theorem De.rn_back:∀(s:De) (own sc:Scs) (n:Nat),(Pa.de s).valid nm=true→(∀e,e∈s.ev own sc n→BkO a b e)→(s.wr (rnP a b) own sc n).wr (rnP b a) own sc n=s∧(s.wr (rnP a b) own sc n).ev own sc n=(s.ev own sc n).map (rnO a b)
 | .mk k o t ns e fo c,own,sc,n,v,h=>by
  obtain ⟨v4,v5⟩:=De.valid_proc v;have vb:=De.valid_body v;simp only[De.body] at vb;rw[De.ev] at h ⊢;by_cases h4:k=4
  ·obtain rfl:=v4 h4;rw[if_pos h4] at h;obtain ⟨c1,c2⟩:=Sm.rn_back1 c _ _ vb h;rw[if_pos h4,De.wr,if_pos h4,De.wr,if_pos h4,De.ev,if_pos h4,qL (Jx a b),qL (Jx b a),Fo.wr_id (Jx a b),Fo.wr_id (Jx b a),c1,c2];exact ⟨rfl,rfl⟩
  ·rw[if_neg h4] at h;obtain ⟨c1,c2⟩:=Ex.rn_backl a b _ false false e h;rw[if_neg h4,De.wr,if_neg h4,De.wr,if_neg h4,De.ev,if_neg h4,qL (Jx a b),qL (Jx b a),c1,c2];exact ⟨rfl,rfl⟩
theorem De.rn_backl:∀(l:List De) (own sc:Scs) (n:Nat),(∀x,x∈l→(Pa.de x).valid nm=true)→(∀e,e∈De.evl own sc n l→BkO a b e)→De.wrl (rnP b a) own sc n (De.wrl (rnP a b) own sc n l)=l∧De.evl own sc n (De.wrl (rnP a b) own sc n l)=(De.evl own sc n l).map (rnO a b)
 | [],_,_,_,_,_=>⟨rfl,rfl⟩
 | x::l,own,sc,n,v,h=>by
  rw[De.evl] at h;obtain ⟨i1,i2⟩:=De.rn_back x own sc n (v x (by simp)) fun e he=>h e (qq6 _ he)
  obtain ⟨j1,j2⟩:=De.rn_backl l own sc _ (fun y hy=>v y (by simp[hy])) fun e he=>h e (qq9 _ he)
  rw[De.wrl,De.wrl,De.evl,De.evl,De.nb_wr (Jx a b) x own sc n (v x (by simp)),i1,i2,j1,j2,qrg];exact ⟨rfl,rfl⟩
theorem Sm.rn_backl:∀(l:List Sm) (sc:Scs) (n:Nat),(∀x,x∈l→(Pa.st x).valid nm=true)→(∀e,e∈Sm.evl sc n l→BkO a b e)→Sm.wrl (rnP b a) sc n (Sm.wrl (rnP a b) sc n l)=l∧Sm.evl sc n (Sm.wrl (rnP a b) sc n l)=(Sm.evl sc n l).map (rnO a b)
 | [],_,_,_,_=>⟨rfl,rfl⟩
 | x::l,sc,n,v,h=>by
  rw[Sm.evl] at h;obtain ⟨i1,i2⟩:=Sm.rn_back x sc n (v x (by simp)) fun e he=>h e (qq6 _ he)
  obtain ⟨j1,j2⟩:=Sm.rn_backl l sc _ (fun y hy=>v y (by simp[hy])) fun e he=>h e (qq9 _ he)
  rw[Sm.wrl,Sm.wrl,Sm.evl,Sm.evl,Sm.nb_wr (Jx a b) x sc n (v x (by simp)),i1,i2,j1,j2,qrg];exact ⟨rfl,rfl⟩
theorem Sm.rn_back1:∀(l:List Sm) (sc:Scs) (n:Nat),(∀x,x∈l→(Pa.st x).valid nm=true)→(∀e,e∈Sm.ev1 sc n l→BkO a b e)→Sm.wr1 (rnP b a) sc n (Sm.wr1 (rnP a b) sc n l)=l∧Sm.ev1 sc n (Sm.wr1 (rnP a b) sc n l)=(Sm.ev1 sc n l).map (rnO a b)
 | [],_,_,_,_=>⟨rfl,rfl⟩
 | x::l,sc,n,v,h=>by
  rw[Sm.ev1] at h;obtain ⟨i1,i2⟩:=Sm.rn_back x _ _ (v x (by simp)) fun e he=>h e (qq6 _ he)
  obtain ⟨j1,j2⟩:=Sm.rn_back1 l sc _ (fun y hy=>v y (by simp[hy])) fun e he=>h e (qq9 _ he)
  rw[Sm.wr1,Sm.wr1,Sm.ev1,Sm.ev1,Sm.wr_labels (Jx a b),Sm.nb_wr (Jx a b) x _ _ (v x (by simp)),i1,i2,j1,j2,qrg];exact ⟨rfl,rfl⟩
end
theorem Sm.rn_back_whole(s:Sm)(v:(Pa.st s).valid nm=true)(h:∀e,e∈s.evs→BkO a b e):(s.wholeR (rnP a b)).wholeR (rnP b a)=s∧(s.wholeR (rnP a b)).evs=s.evs.map (rnO a b):=by
 unfold Sm.evs Sm.wholeR at *;rw[Sm.wr_labels (Jx a b)];exact Sm.rn_back a b s _ _ v h
end
section
variable {lk:Lk}
mutual
theorem Ex.sb_none:∀x:Ex,(∀u,u∈x.occ→lk u=none)→x.sb lk=x∧∀tg,x.sbad lk tg=false
 | .mk k o n m e t a,h=>by
  rw[Ex.occ] at h;obtain ⟨h1,h2⟩:=Ex.sbl_none a fun u hu=>h u (qq6 _ hu)
  rw[Ex.sb,h1];by_cases hn:Ex.named k=true
  ·rw[if_pos hn] at h;have ht:lk t=none:=h t (by simp);refine ⟨?_,fun tg=>?_⟩
   ·rw[ht,qhN ht];split
    ·rfl
    ·first|rfl|(split <;> rfl)
   ·rw[Ex.sbad,h2 false];have h3:qeK lk tg t=false:=by unfold qeK;rw[ht]
    have h4:qaK lk t=false:=by unfold qaK;rw[ht]
    rw[h3,h4];split <;> simp
  ·have h6:¬ k=6:=fun h=>hn (by rw[h];rfl)
   have hn':Ex.named k=false:=by simpa using hn
   refine ⟨?_,fun tg=>?_⟩
   ·rw[if_neg h6,if_neg hn]
   ·rw[Ex.sbad,h2 false,if_neg h6,hn'];rfl
theorem Ex.sbl_none:∀l:List Ex,(∀u,u∈Ex.occl l→lk u=none)→Ex.sbl lk l=l∧∀tg,Ex.sbadl lk tg l=false
 | [],_=>⟨rfl,fun _=>rfl⟩
 | x::l,h=>by
  rw[Ex.occl] at h;obtain ⟨h1,h2⟩:=Ex.sb_none x fun u hu=>h u (qq6 _ hu)
  obtain ⟨h3,h4⟩:=Ex.sbl_none l fun u hu=>h u (qq9 _ hu)
  refine ⟨by rw[Ex.sbl,h1,h3],fun tg=>by rw[Ex.sbadl,h2,h4];rfl⟩
end
end
theorem Zn(y:Bz)(a:Ex)(t:Bz):lkL [(y,a)] t=if y=t then some a else none:=rfl
theorem qax(y z:Bz)(a b:Ex)(t:Bz):lkL [(y,a),(z,b)] t=if y=t then some a else if z=t then some b else none:=rfl
theorem Cmp.ord{lk1 lk2 lk3:Lk}{t:Bz}(h0:lk1 t=none→lk3 t=lk2 t)(h1:∀a,lk1 t=some a→lk3 t=some a∧∀u,u∈a.occ→lk2 u=none):Cmp lk1 lk2 lk3 t:=by
 cases h:lk1 t with
 | none=>
  refine ⟨by rw[h];exact h0 h,fun z hz=>?_,fun z hz=>?_⟩
  ·rw[h] at hz;cases hz
  ·rw[h] at hz;cases hz
 | some a=>
  obtain ⟨h3,hn⟩:=h1 a h;obtain ⟨e1,e2⟩:=Ex.sb_none a hn;refine ⟨by rw[h,h3];simp only;rw[e1],fun z hz tg _=>?_,fun z hz hb=>?_⟩
  ·rw[h] at hz;cases hz;exact e2 tg
  ·rw[h] at hz;cases hz;unfold qaK at hb ⊢;rw[h3] at hb;simp only[decide_not,qsU,decide_eq_true_eq] at hb
   have hm:a.text∈a.occ:=by
    cases a;simp only[Ex.kind] at hb;subst hb;rw[Ex.occ,if_pos (by rfl)];simp[Ex.text]
   rw[hn _ hm]
theorem qbI{b:Bz}(hb:qb b=true):(Pa.ex (nmX b)).valid qb=true:=Pa.valid_iff.2 ⟨by simp[Pa.vOwn,nmX,Ex.vOwn,hb],fun q hq=>by simp[Pa.kids,nmX,Ex.args] at hq⟩
section
variable {s:Sm} (va:(Pa.st s).valid qb=true)
include va
omit va in
theorem qpC{y z:Bz}{a b:Ex}(hyz:y≠z)(ha:z∉a.occ)(b1:(s.whole yn).sbad (lkL [(y,a)])=false)(b3:(s.whole yn).sbad (lkL [(y,a),(z,b)])=false):
  ((s.whole yn).sb (lkL [(y,a)])).sb (lkL [(z,b)])=(s.whole yn).sb (lkL [(y,a),(z,b)])∧((s.whole yn).sb (lkL [(y,a)])).sbad (lkL [(z,b)])=false:=
 Sm.sb_sb_whole s b1 b3 fun o _=>by
  generalize zH yn o.2 o.1=t;refine Cmp.ord (fun h=>?_) (fun c h=>?_)
  ·rw[Zn] at h;rw[qax,Zn];split at h
   ·cases h
   ·rename_i hn;rw[if_neg hn]
  ·rw[Zn] at h;rw[qax];split at h
   ·rename_i hp;cases h;refine ⟨if_pos hp,fun u hu=>?_⟩;rw[Zn,if_neg (fun hh:z=u=>ha (hh ▸ hu))]
   ·cases h
omit va in
theorem qo5{y z:Bz}{a b:Ex}(hyz:y≠z)(hb:y∉b.occ)(b1:(s.whole yn).sbad (lkL [(z,b)])=false)(b3:(s.whole yn).sbad (lkL [(y,a),(z,b)])=false):
  ((s.whole yn).sb (lkL [(z,b)])).sb (lkL [(y,a)])=(s.whole yn).sb (lkL [(y,a),(z,b)])∧((s.whole yn).sb (lkL [(z,b)])).sbad (lkL [(y,a)])=false:=
 Sm.sb_sb_whole s b1 b3 fun o _=>by
  generalize zH yn o.2 o.1=t;refine Cmp.ord (fun h=>?_) (fun c h=>?_)
  ·rw[Zn] at h;rw[qax,Zn];split at h
   ·cases h
   ·rename_i hn;rw[if_neg hn]
  ·rw[Zn] at h;rw[qax];split at h
   ·rename_i hp;cases h;refine ⟨?_,fun u hu=>?_⟩
    ·rw[if_neg (fun hh=>hyz (hh.trans hp.symm)),if_pos hp]
    ·rw[Zn,if_neg (fun hh:y=u=>hb (hh ▸ hu))]
   ·cases h
end
end Go.Proofs.YtbifpocccfkhhaaGreatDoor

namespace Go.Proofs.YtbifpocccfkhhaaGreatDoor
open Go
theorem qch(y:Bz)(x:Ex):(suT [y] [(y,x)]).length=1+x.occ.length:=by simp[suT];omega
theorem qpr{s:Sm}{l:List Bz}{xs:List Ex}(he:qjL (l.zip xs))(hl:s.frees.length+Sm.nb1 [s]+(suT l (l.zip xs)).length≤899)(h:sE s l xs=0):SuOk s l (l.zip xs):=by
 obtain ⟨h0,hp,ha,hf,ho⟩:=qgM h;rw[qfM (qI h0).2 he hl] at hf;exact qnv (qI h0).2 he hl hf
section
variable {s:Sm} {y z:Bz} {a b:Ex}
end
theorem Sm.frees_len0(s:Sm):s.frees.length≤(Pa.st s).size:=by
 unfold Sm.frees;rw[Qu];have h1:=Qz (l:=ym (s.wholeH coP coZ)) (ks:=[]);have h2:=s.frees_len;simp only[qrX] at h1;omega
theorem Sm.binds_len0(s:Sm):s.binds.length≤Sm.nb1 [s]:=by
 unfold Sm.binds;rw[Qu];have h1:=Qz (l:=s.bounds) (ks:=[]);rw[s.bounds_len] at h1;simp only[qrX] at h1;omega
end Go.Proofs.YtbifpocccfkhhaaGreatDoor

namespace Go.Proofs.YtbifpocccfkhhaaGreatDoor
open Go Go.Proofs.Tryz
set_option maxRecDepth 20000
noncomputable def c7:F':=⟨108,[.t 6],.k [.B 3 0,.F 6] (.seq (.k [.j 19 8 3,.c 20 17 19,.o 21 (.un .not (.t 20))] (.d 21 (.k [.o 22 (.call (.f 18) []),.m 6 22] .ret) .skip)) (.k [.j 24 8 3,.m 25 1,.m 26 2,.x 27 19 24 25 26,.m 23 27,.e 28 0 23,.e 29 1 23,.o 7 (.new zS),.s 8 7 28,.m 8 29] (.k [.j 31 8 3,.c 32 29 31,.m 30 32,.e 33 0 30,.e 34 1 30,.m 9 33,.m 10 34] (.k [.j 36 8 3,.c 37 31 36,.m 35 37,.e 38 0 35,.e 39 1 35,.m 11 38,.m 12 39] (.seq (.k [.m 40 8,.u 41 .neq 40 0,.m 42 41,.V 43 42 false 10,.v 44 42 false (.bin .neq (.t 43) (.c z0)),.z 45 42 44,.m 46 45,.V 47 46 false 12,.v 48 46 false (.bin .neq (.t 47) (.c z0)),.z 49 46 48] (.d 49 (.k [.o 50 (.call (.f 18) []),.m 6 50] .ret) .skip)) (.seq (.draw [.q (.j 52 8 3) false true [] 0 1,.q (.m 53 1) false false [] 0 1,.q (.o 54 (.bsl 1 [(.t 53)])) false false [1] 0 1,.p (.m 55 2) [],.q (.c 56 33 55) true false [3] 0 0,.q (.o 57 (.bsl 7 [(.t 56)])) false false [4,3] 1 1,.q (.x 58 32 52 54 57) true false [0,2,5,1,4,3] 1 1,.q (.m 51 58) false false [6,0,2,5,1,4,3] 2 2,.q (.e 59 0 51) false false [7,6,0,2,5,1,4,3] 2 2,.q (.e 60 1 51) false false [7,6,0,2,5,1,4,3] 2 3,⟨.o 13 (.new zS),false,(some 0),true,[],0,2⟩,.q (.s 8 13 59) true false [8,10,7,6,0,2,5,1,4,3] 2 2,.q (.m 14 60) false false [9,11,8,10,7,6,0,2,5,1,4,3] 3 3] [zS]) (.seq (.k [.m 61 14,.u 62 .eql 61 0] (.d 62 (.k [.j 64 8 7,.j 65 8 13,.w 66 24 64 65,.m 63 66,.e 67 0 63,.e 68 1 63,.m 15 67,.m 16 68] (.k [.m 69 16,.u 70 .neq 69 0,.m 71 70,.V 72 71 false 15,.v 73 71 false (.un .not (.t 72)),.z 74 71 73] (.d 74 (.k [.F 6] .ret) .skip))) (.k [.m 75 14,.u 76 .neq 75 2] (.d 76 (.k [.F 6] .ret) .skip)))) (.seq (.k [.m 77 1,.m 78 2,.b 79 .eql 77 78,.m 80 79,.V 81 80 false 9,.V 82 80 false 2,.v 83 80 false (.call (.f 34) [(.t 81),(.t 82)]),.z 84 80 83,.m 85 84,.V 86 85 false 11,.V 87 85 false 2,.v 88 85 false (.call (.f 34) [(.t 86),(.t 87)]),.z 89 85 88] (.d 89 (.k [.o 90 (.call (.f 18) []),.m 6 90] .ret) .skip)) (.k [.j 92 8 7,.m 93 2,.m 94 1,.x 95 19 92 93 94,.m 91 95,.e 96 0 91,.e 97 1 91,.o 17 (.new zS),.s 8 17 96,.m 18 97] (.k [.o 98 (.call (.f 18) []),.m 99 98,.V 100 99 true 18,.v 101 99 true (.bin .eql (.t 100) (.c z0)),.y 102 99 101,.m 103 102,.v 104 103 true (.ld (some 8) (.t 17)),.v 105 103 true (.ld (some 8) (.t 3)),.v 106 103 true (.call (.f 23) [(.t 104),(.t 105)]),.y 107 103 106,.m 6 107] .ret))))))))))⟩
theorem ok7:okF f7 c7:=okI
theorem Sm.nb1_100{t:Sm}(h:(Pa.st t).fits):(Pa.st t).size≤4000∧Sm.nb1 [t]≤100000:=by
 have h1:=h.1;have h2:=t.nb1_le;omega
theorem qmg(a b:Sm)(oa:a.ok)(ob:b.ok)(ea:(Pa.st a).err qb=0)(eb:(Pa.st b).err qb=0)(na:Sm.nb1 [a]≤1000)(h:a.wholeR (nuP yn)=b.wholeR (nuP yn))(U:St):
  qt prog 24 [a.v,b.v] U (fun r U'=>r=.tup [.bool true,.int .i64 0]∧Kp (fun _=>False) U U'):=by
 have fa:=Sm.nb1_100 (qI ea).1;have fb:=Sm.nb1_100 (qI eb).1
 have:=qoX a b oa ob fa.1 fb.1 fa.2 fb.2 (fun h=>by
  rw[jp (qI h).2];exact Sm.whole_ok (f:=yn) (N:=1000) (fun k hk=>qfR k hk) a na oa) U
 simpa[ea,eb,h] using this
abbrev nmV(b:Bz):V:=.agg [.int .i64 6,.int .i64 0,.int .i64 0,.int .i64 0,.int .i64 0,.str b,.sl true []]
theorem qo1(b:Bz):∀S,Fn prog 33 [.str b] S (nmV b):=by
 refine Pu.intro (R:=fun v=>v=nmV b) func33 ok33 (by simp[c33]) (by simp[V.under,V.underL]) (by rintro v rfl;rfl) ?_;simp[c33,qG,ldS,stS,qh,qB,qF];exact qa rfl rfl rfl
theorem qjD(b:Bz)(hb:b.size≤B50):(nmX b).ok:=⟨hb,qrA _,trivial⟩
theorem qke(s:Sm)(os:s.ok)(zs:(Pa.st s).size≤4000)(y x:Bz)(hb:x.size≤B50)(hl:s.frees.length+Sm.nb1 [s]≤300)(U:St):
  qt prog 32 [s.v,.sl true [.str y],.sl true [nmV x]] U (fun r U'=>r=.tup [sV s [y] [nmX x],.int .i64 (sE s [y] [nmX x])]∧Kp (fun _=>False) U U'):=qt.weakA (by
 have zx:(Pa.ex (nmX x)).size≤4000:=by
  rw[Pa.size_eq];simp[Pa.own,Pa.kids,nmX,Ex.args,qK]
 have:=qng s os zs false false [y] [nmX x] (by simp) (by simp) (fun z hz=>by simp at hz;rw[hz];exact zx) (fun z hz=>by simp at hz;rw[hz];exact qjD x hb) (by show _+(suT [y] [(y,nmX x)]).length≤_;rw[qch];have h:(nmX x).occ.length=1:=rfl;omega) U;simpa[V.weakL,V.weak,Sm.v_weak,nmX,Ex.v,Ex.vl] using this)
structure Rs(a b:Bz)(cf ct cg cc:Nat)(h:Bool)(F D:Np)(U:St):Prop where
 f:U[cf]?=some (.arr [.str a] 1 1)
 t:U[ct]?=some (.arr [.str b] 1 1)
 g:U[cg]?=some (.arr [.bool h] 1 1)
 c:U[cc]?=some (.arr [.fn (.func 59) [] [.ptr cf 0 0 1,.ptr cg 0 0 1,.ptr ct 0 0 1]] 1 1)
 hF:∀l,F l↔l=cg
 hD:∀l,D l↔l=cf∨l=ct∨l=cc
section
variable {a b:Bz} {cf ct cg cc:Nat} {h:Bool} {F D:Np} {U:St}
theorem Rs.fr{U':St}{M:Np}(k:Rs a b cf ct cg cc h F D U)(hk:Kp M U U')(hM:∀l,M l→l<U.length→¬ F l∧¬ D l):Rs a b cf ct cg cc h F D U':=
 ⟨hk.at k.f fun hh=>(hM _ hh (glt k.f)).2 ((k.hD _).2 (.inl rfl)),hk.at k.t fun hh=>(hM _ hh (glt k.t)).2 ((k.hD _).2 (.inr (.inl rfl))),hk.at k.g fun hh=>(hM _ hh (glt k.g)).1 ((k.hF _).2 rfl),hk.at k.c fun hh=>(hM _ hh (glt k.c)).2 ((k.hD _).2 (.inr (.inr rfl))),k.hF,k.hD⟩
theorem Rs.put(k:Rs a b cf ct cg cc h F D U)(h':Bool):Rs a b cf ct cg cc h' F D (U.set cg (.arr [.bool h'] 1 1)):=
 ⟨by rw[qqX (YZ k.g k.f (by simp))];exact k.f,by rw[qqX (YZ k.g k.t (by simp))];exact k.t,qqV (glt k.g),by rw[qqX (YZ k.g k.c (by simp))];exact k.c,k.hF,k.hD⟩
theorem Rs.lt(k:Rs a b cf ct cg cc h F D U){l:Nat}(hl:F l∨D l):l<U.length:=by
 rcases hl with hl|hl
 ·rw[(k.hF l).1 hl];exact glt k.g
 ·rcases (k.hD l).1 hl with rfl|rfl|rfl
  ·exact glt k.f
  ·exact glt k.t
  ·exact glt k.c
theorem qjK(k:Rs a b cf ct cg cc h F D U){X:Np}{w:V}{ts:List Sct}(hsc:ScR (rnP a b) X U w ts)(x:Bz):
  qt prog 59 [.str x,w,.ptr cf 0 0 1,.ptr cg 0 0 1,.ptr ct 0 0 1] U (fun r U'=>r=.str (rnT a b (Scx ts) x)∧Rs a b cf ct cg cc (rnH a b (Scx ts) x h) F D U'∧Kp F U U'):=by
 refine qt.ib func59 ok59 ?_;have hf:=k.f;have ht:=k.t;have hg:=k.g;have hT:rnT a b (Scx ts) x=if x=a∧(Scx ts).at x=none then b else x:=rfl
 have hH:rnH a b (Scx ts) x h=if x=a∧(Scx ts).at x=none then h || ((Scx ts).at b).isSome else h:=rfl
 simp[c59,ldS,hf];by_cases hx:x=a
 case neg=>
  rw[if_neg (fun hh=>hx hh.1)] at hT hH;rw[hT,hH];simp[hx];exact qf rfl ⟨rfl,k,Kp.refl _ _⟩
 subst hx;simp;refine qg (Ys hsc x) ?_;rw[ZV] at hT hH
 cases hfd:fnd ts x with
 | some q=>
  rw[hfd,if_neg (by simp)] at hT hH;rw[hT,hH];simp[ZT,hfd,zT,eqV];exact qf rfl ⟨rfl,k,Kp.refl _ _⟩
 | none=>
  rw[hfd,if_pos ⟨rfl,rfl⟩] at hT hH;rw[hT,hH,ZV];have fin:∀(b':Bool) (e:Env),e.get 7=some (.str b)→JQ [.t 7] U.length (fun r U'=>r=.str b∧Rs x b cf ct cg cc b' F D U'∧Kp F U U') .ret e (U.set cg (.arr [.bool b'] 1 1)):=
   fun b' e he=>qf (vs:=[.str b]) (by simp[rvs,he]) ⟨rfl,k.put b',(Kp.refl _ _).set _ (.inl ((k.hF cg).2 rfl))⟩
  have ht':∀b':Bool,(U.set cg (.arr [.bool b'] 1 1))[ct]?=some (.arr [.str b] 1 1):=fun b'=>(k.put b').t
  cases h with
  | true=>
   simp[ZT,hfd,zT,eqV,ldS,hg,stS,zj,ht'];refine fin true _ ?_;simp
  | false=>
   simp[ZT,hfd,zT,eqV,ldS,hg,ht];refine qg (Ys hsc b) ?_
   cases hfb:fnd ts b with
   | some q=>
    simp[ZT,hfb,zT,eqV,ldS,hg,stS,zj,ht'];refine fin true _ ?_;simp
   | none=>
    simp[ZT,hfb,zT,eqV,ldS,hg,stS,zj,ht'];refine fin false _ ?_;simp
theorem qod(k:Rs a b cf ct cg cc h F D U){X:Np}{w:V}{ts:List Sct}(hsc:ScR (rnP a b) X U w ts)(x:Ex)(tg:Bool):
  qt prog 61 [x.v,w,.bool tg,.ptr cc 0 0 1] U (fun r U'=>r=(Ex.mk x.kind x.op x.n x.man x.exp (rnT a b (Scx ts) x.text) x.args).v∧Rs a b cf ct cg cc (rnH a b (Scx ts) x.text h) F D U'∧Kp F U U'):=by
 refine qt.ib func61 ok61 ?_;simp[c61,qG];obtain ⟨U1,hU1⟩:∃U1:St,U1=U++[.arr [x.v] 7 1,.arr [.agg [.int .i64 0,.int .i64 0,.int .i64 0,.int .i64 0,.int .i64 0,.str ⟨⟨[]⟩⟩,.sl true []]] 7 1]:=⟨_,rfl⟩;rw[←hU1];have l1:U1.length=U.length+2:=by rw[hU1];simp
 have b0:U1[U.length]?=some (.arr [x.v] 7 1):=by rw[hU1];simp
 have b1:U1[U.length+1]?=some (.arr [.agg [.int .i64 0,.int .i64 0,.int .i64 0,.int .i64 0,.int .i64 0,.str ⟨⟨[]⟩⟩,.sl true []]] 7 1):=by rw[hU1,qqU (by omega)];simp
 have kp1:Kp F U U1:=by rw[hU1];exact (Kp.refl _ _).push _
 have k1:Rs a b cf ct cg cc h F D U1:=by rw[hU1];exact k.fr (M:=fun _=>False) ((Kp.refl _ _).push _) fun _ h=>h.elim
 have s1:ScR (rnP a b) X U1 w ts:=by rw[hU1];exact hsc.push _
 clear hU1;have nF:∀j,¬ F (U.length+j):=fun j hf=>by have:=k.lt (.inl hf);omega
 have nD:∀j,¬ D (U.length+j):=fun j hf=>by have:=k.lt (.inr hf);omega
 have h6:=k1.c;simp[ldS,h6,b0];refine qi (qjK k1 s1 x.text) ?_;rintro r U2 ⟨rfl,k2,kp2⟩;have c0:=kp2.at b0 (nF 0);have c1:=kp2.at b1 (nF 1);obtain ⟨y,hy⟩:∃y,y=rnT a b (Scx ts) x.text:=⟨_,rfl⟩;rw[←hy];obtain ⟨z,hz⟩:∃z:Ex,z=.mk x.kind x.op x.n x.man x.exp y x.args:=⟨_,rfl⟩;have hzv:Ob.arr [V.agg [.int .i64 x.kind,.int .i64 x.op,.int .i64 x.n,.int .i64 x.man,.int .i64 x.exp,.str y,.sl false (x.args.map Ex.v)]] 7 1=.arr [z.v] 7 1:=by rw[hz,Ex.v_eq];rfl
 rw[←hz];simp[stS,c0,qbx,qh];rw[hzv];have d0:(U2.set U.length (.arr [z.v] 7 1))[U.length]?=some (.arr [z.v] 7 1):=qqV (glt c0);have d1:(U2.set U.length (.arr [z.v] 7 1))[U.length+1]?=some (.arr [.agg [.int .i64 0,.int .i64 0,.int .i64 0,.int .i64 0,.int .i64 0,.str ⟨⟨[]⟩⟩,.sl true []]] 7 1):=by rw[qqX (by omega)];exact c1
 obtain ⟨U3,hU3⟩:∃U3,U3=U2.set U.length (.arr [z.v] 7 1):=⟨_,rfl⟩;rw[←hU3] at d0 d1 ⊢;simp[ldS,d0,stS,d1,qh];have hw:(U3.set (U.length+1) (.arr [z.v] 7 1))[U.length+1]?=some (.arr [z.v] 7 1):=qqV (glt d1);refine qf (vs:=[z.v]) (by simp[rvs,ldS,hw]) ⟨rfl,?_,?_⟩
 ·refine Rs.fr (M:=fun l=>l=U.length∨l=U.length+1) k2 ?_ fun l hl _=>?_
  ·rw[hU3];exact ((Kp.refl _ _).set _ (.inl (.inl rfl))).set _ (.inl (.inr rfl))
  ·rcases hl with rfl|rfl
   ·exact ⟨nF 0,nD 0⟩
   ·exact ⟨nF 1,nD 1⟩
 ·rw[hU3];exact ((kp1.trans kp2).set _ (.inr (qqY _))).set _ (.inr (by omega))
end
def rnC(a b:Bz)(cf ct cg cc:Nat):Cb where
 toPw:=rnP a b
 fe:=.nilfn
 fn:=.fn (.func 61) [] [.ptr cc 0 0 1]
 fc:=.fn (.func 59) [] [.ptr cf 0 0 1,.ptr cg 0 0 1,.ptr ct 0 0 1]
 I h F D U:=Rs a b cf ct cg cc h F D U
 cn _ _:=True
 lim:=100001
theorem qnF(a b:Bz)(cf ct cg cc:Nat):(rnC a b cf ct cg cc).Ok where
 lim:=qqY _
 lt:=fun k l hl=>Rs.lt k hl
 fr:=fun k hk hM=>Rs.fr k hk hM
 lp:=fun {h F D S} k l o ho=>by
  have k:Rs a b cf ct cg cc h F D S:=k;refine ⟨fun hf=>?_,fun hf=>?_⟩
  ·rw[(k.hF l).1 hf,k.g] at ho;cases ho
  ·rcases (k.hD l).1 hf with rfl|rfl|rfl
   ·rw[k.f] at ho;cases ho
   ·rw[k.t] at ho;cases ho
   ·rw[k.c] at ho;cases ho
 ce _ _:=trivial
 cm _ _ _ _:=trivial
 cc _ _ _:=trivial
 real:=fun {h F D S} k h'=>by
  have k:Rs a b cf ct cg cc h F D S:=k;exact ⟨F,D,_,k.put h',(Kp.refl _ _).set _ (.inl ((k.hF cg).2 rfl)),grow.refl _ _,grow.refl _ _⟩
 en:=.inl ⟨rfl,fun _ _=>rfl,fun _ _ _=>rfl⟩
 nm:=⟨61,[.ptr cc 0 0 1],rfl,fun U x w ts tg w' h F D hsc k=>qt.mono (qod k hsc x tg) fun r U' ⟨a,b,c⟩=>⟨a,F,D,b,c,grow.refl _ _,grow.refl _ _⟩⟩
 cl:=⟨59,[.ptr cf 0 0 1,.ptr cg 0 0 1,.ptr ct 0 0 1],rfl,fun U x w ts w' h F D hsc k=>qt.mono (qjK k hsc x) fun r U' ⟨a,b,c⟩=>⟨a,F,D,b,c,grow.refl _ _,grow.refl _ _⟩⟩
end Go.Proofs.YtbifpocccfkhhaaGreatDoor

namespace Go.Proofs.YtbifpocccfkhhaaGreatDoor
open Go
def qia(s:Sm)(a b:Bz):Rst:=s.rs (rnR a b) [qd s.labels 0] (qd s.labels 0).length st0
def rnE(s:Sm)(a b:Bz):Int:=if a≠b∧Q9 b s.frees=true then 6 else if (qia s a b).caught=true then 10 else 0
open Go.Proofs.Tryz
def leE(s:Sm)(a b:Bz):Int:=if (Pa.st s).err qb≠0 then (Pa.st s).err qb else if qb a=true∧qb b=true then rnE s a b else 1
def leV(s:Sm)(a b:Bz):V:=if leE s a b=0 then (s.wholeQ (rnR a b)).v else smZ
theorem qhM(s:Sm)(b:Bz):Q9 b ((ym (s.wholeH coP coZ)).foldl yR [])=Q9 b s.frees:=by
 rw[qrz,zo,zo];unfold Sm.frees;rw[jH]
theorem qfN(s:Sm)(hs:s.ok)(hsz:(Pa.st s).size≤4000)(hn:Sm.nb1 [s]≤4000)(a b:Bz)(S:St):
  qt prog 19 [s.v,.str a,.str b] S (fun r U=>r=.tup [leV s a b,.int .i64 (leE s a b)]∧Kp (fun _=>False) S U):=by
 refine qt.ib func19 ok19 ?_;obtain ⟨S1,hS1⟩:∃S1:St,S1=S++[.arr [s.v] 8 1,.arr [.str a] 1 1,.arr [.str b] 1 1,.arr [smZ] 8 1]:=⟨_,rfl⟩;have b0:S1[S.length]?=some (.arr [s.v] 8 1):=by rw[hS1];simp
 have ba:S1[S.length+1]?=some (.arr [.str a] 1 1):=by rw[hS1,qqU (by omega)];simp
 have bb:S1[S.length+2]?=some (.arr [.str b] 1 1):=by rw[hS1,qqU (by omega)];simp
 have b1:S1[S.length+3]?=some (.arr [smZ] 8 1):=by rw[hS1,qqU (by omega)];simp
 have l1:S1.length=S.length+4:=by rw[hS1];simp
 have kS:Kp (fun _=>False) S S1:=by rw[hS1];exact (Kp.refl _ _).push _
 have d0:ldS S1 (.ptr S.length 0 0 1) (some 8)=some s.v:=by simp[ldS,b0]
 have da:ldS S1 (.ptr (S.length+1) 0 0 1) none=some (.str a):=by simp[ldS,ba]
 have db:ldS S1 (.ptr (S.length+2) 0 0 1) none=some (.str b):=by simp[ldS,bb]
 have fin:∀(Y:St) (y:V) (e:Int) (ev:Env),Kp (fun _=>False) S1 Y→leV s a b=y→leE s a b=e→ev.get 6=some (.ptr (S.length+3) 0 0 1)→ev.get 7=some (.int .i64 e)→y.size=8→V.part y 0 (some 8)=some y→
   JQ [.cell 6 (some 8),.t 7] S.length (fun r U=>r=.tup [leV s a b,.int .i64 (leE s a b)]∧Kp (fun _=>False) S U) .ret ev (Y.set (S.length+3) (.arr [y] 8 1)):=fun Y y e ev kY hy he g6 g7 hz hp=>by
  have h1:=kY.at b1 id;have h2:(Y.set (S.length+3) (.arr [y] 8 1))[S.length+3]?=some (.arr [y] 8 1):=qqV (glt h1);exact qf (vs:=[y,.int .i64 e]) (by simp[rvs,g6,g7,ldS,h2,hp]) ⟨by rw[hy,he];rfl,(kS.trans kY).set _ (.inr (by omega))⟩
 have he:leE s a b=if (Pa.st s).err qb≠0 then (Pa.st s).err qb else if qb a=true∧qb b=true then rnE s a b else 1:=rfl
 have hz:leE s a b≠0→leV s a b=smZ:=fun h=>if_neg h
 simp only[c19,C'.k];refine qx (fun e U=>U=S1∧e.get 3=some (.ptr S.length 0 0 1)∧e.get 4=some (.ptr (S.length+1) 0 0 1)∧e.get 5=some (.ptr (S.length+2) 0 0 1)∧e.get 6=some (.ptr (S.length+3) 0 0 1)∧e.get 7=some (.int .i64 0)) (by rw[hS1];simp[qG,yo]) ?_;rintro e U ⟨rfl,g3,g4,g5,g6,g7⟩;refine qx (fun e U'=>U'=U∧(Pa.st s).err qb=0∧e.get 3=some (.ptr S.length 0 0 1)∧e.get 4=some (.ptr (S.length+1) 0 0 1)∧e.get 5=some (.ptr (S.length+2) 0 0 1)∧e.get 6=some (.ptr (S.length+3) 0 0 1)∧e.get 7=some (.int .i64 0)) ?_ ?_
 ·simp[g3,d0];refine qg (jU s hs U) ?_;by_cases h0:(Pa.st s).err qb=0
  ·simp[h0,g3,g4,g5,g6,g7]
  ·rw[if_pos h0] at he;simp[h0,qB,qF,stS,b1,qh,g6,g7];refine fin _ smZ _ _ (Kp.refl _ _) (hz (by rw[he];exact h0)) he ?_ ?_ rfl rfl
   ·simp[g6]
   ·simp
 clear g3 g4 g5 g6 g7 e;rintro e U' ⟨rfl,h0,g3,g4,g5,g6,g7⟩;rw[if_neg (by rw[h0];simp)] at he;refine qx (fun e U=>U=U'∧(qb a=true∧qb b=true)∧e.get 3=some (.ptr S.length 0 0 1)∧e.get 4=some (.ptr (S.length+1) 0 0 1)∧e.get 5=some (.ptr (S.length+2) 0 0 1)∧e.get 6=some (.ptr (S.length+3) 0 0 1)∧e.get 7=some (.int .i64 0)) ?_ ?_
 ·simp[g4,da];refine qg (Yw a U') ?_
  cases ha:qb a with
  | false=>
   rw[if_neg (by rw[ha];simp)] at he;simp[qB,qF,stS,b1,qh,g6,g7];refine fin _ smZ 1 _ (Kp.refl _ _) (hz (by rw[he];simp)) he ?_ ?_ rfl rfl
   ·simp[g6]
   ·simp
  | true=>
   simp[g5,db];refine qg (Yw b U') ?_
   cases hb:qb b with
   | false=>
    rw[if_neg (by rw[hb];simp)] at he;simp[qB,qF,stS,b1,qh,g6,g7];refine fin _ smZ 1 _ (Kp.refl _ _) (hz (by rw[he];simp)) he ?_ ?_ rfl rfl
    ·simp[g6]
    ·simp
   | true=>simp[g3,g4,g5,g6,g7]
 clear g3 g4 g5 g6 g7 e;rintro e U ⟨rfl,hab,g3,g4,g5,g6,g7⟩;rw[if_pos hab] at he;refine qx (fun e U'=>Kp (fun _=>False) U U'∧(∃m bs ck,e.get 9=some (.map m)∧U'[m]?=some (.map (((ym (s.wholeH coP coZ)).foldl yR []).map kv) bs ck))∧e.get 3=some (.ptr S.length 0 0 1)∧e.get 4=some (.ptr (S.length+1) 0 0 1)∧e.get 5=some (.ptr (S.length+2) 0 0 1)∧e.get 6=some (.ptr (S.length+3) 0 0 1)∧e.get 7=some (.int .i64 0)) ?_ ?_
 ·simp[g3,d0];refine qi (qcu s hs hsz (by omega) U) ?_;rintro r U2 ⟨m,c4,c5,c6,v,ps,F,D,rfl,k,kU,_⟩;obtain ⟨bs,ck,hst,hm⟩:=k.fm;simp[g3,g4,g5,g6,g7];exact ⟨kU,bs,ck,hm⟩
 clear g3 g4 g5 g6 g7 e;rintro e U2 ⟨k2,⟨m,bs,ck,g9,hm⟩,g3,g4,g5,g6,g7⟩;have ea:=k2.at ba id;have eb:=k2.at bb id;have e1:=k2.at b1 id;have da2:ldS U2 (.ptr (S.length+1) 0 0 1) none=some (.str a):=by simp[ldS,ea]
 have db2:ldS U2 (.ptr (S.length+2) 0 0 1) none=some (.str b):=by simp[ldS,eb]
 have hre:rnE s a b=if a≠b∧Q9 b s.frees=true then 6 else if (qia s a b).caught=true then 10 else 0:=rfl
 refine qx (fun e U'=>U'=U2∧¬ (a≠b∧Q9 b s.frees=true)∧e.get 3=some (.ptr S.length 0 0 1)∧e.get 4=some (.ptr (S.length+1) 0 0 1)∧e.get 5=some (.ptr (S.length+2) 0 0 1)∧e.get 6=some (.ptr (S.length+3) 0 0 1)∧e.get 7=some (.int .i64 0)) ?_ ?_
 ·have hlk:=qdo b hm;rw[qhM] at hlk;by_cases hq:a=b
  ·subst hq;simp[g3,g4,g5,g6,g7,da2,db2]
  ·cases hi:Q9 b s.frees with
   | true=>
    rw[if_pos ⟨hq,hi⟩] at hre;rw[hre] at he;rw[hi] at hlk;simp[g4,g5,g9,da2,db2,hq,evX,hlk,qB,qF,stS,e1,qh,g6,g7];refine fin _ smZ 6 _ k2 (hz (by rw[he];simp)) he ?_ ?_ rfl rfl
    ·simp[g6]
    ·simp
   | false=>
    rw[hi] at hlk;simp[g3,g4,g5,g6,g7,g9,da2,db2,hq,evX,hlk]
 clear g3 g4 g5 g6 g7 g9 e;rintro e U3 ⟨rfl,hq,g3,g4,g5,g6,g7⟩;rw[if_neg hq] at hre;rw[hre] at he;obtain ⟨B,hB⟩:∃B,B=U3.length:=⟨_,rfl⟩;have lB:S.length+4≤B:=by have:=k2.len;omega
 obtain ⟨U4,hU4⟩:∃U4:St,U4=U3++[.arr [.bool false] 1 1,.arr [.fn (.func 59) [] [.ptr (S.length+1) 0 0 1,.ptr B 0 0 1,.ptr (S.length+2) 0 0 1]] 1 1,.arr [.agg [.int .i64 0,.nilfn,.fn (.func 61) [] [.ptr (B+1) 0 0 1],.fn (.func 59) [] [.ptr (S.length+1) 0 0 1,.ptr B 0 0 1,.ptr (S.length+2) 0 0 1]]] 4 1]:=⟨_,rfl⟩;have kU4:Kp (fun _=>False) U3 U4:=by rw[hU4];exact (Kp.refl _ _).push _
 have w0:U4[B]?=some (.arr [.bool false] 1 1):=by rw[hU4,hB,qqU (by omega)];simp
 have w1:U4[B+1]?=some (.arr [.fn (.func 59) [] [.ptr (S.length+1) 0 0 1,.ptr B 0 0 1,.ptr (S.length+2) 0 0 1]] 1 1):=by rw[hU4,hB,qqU (by omega)];simp
 have w2:U4[B+2]?=some (.arr [.agg [.int .i64 0,.nilfn,.fn (.func 61) [] [.ptr (B+1) 0 0 1],.fn (.func 59) [] [.ptr (S.length+1) 0 0 1,.ptr B 0 0 1,.ptr (S.length+2) 0 0 1]]] 4 1):=by rw[hU4,hB,qqU (by omega)];simp
 have f0:=(k2.trans kU4).at b0 id;have fa:=(k2.trans kU4).at ba id;have fb:=(k2.trans kU4).at bb id;have hrs:Rs a b (S.length+1) (S.length+2) B (B+1) false (fun l=>l=B) (fun l=>l=S.length+1∨l=S.length+2∨l=B+1) U4:=⟨fa,fb,w0,w1,fun _=>Iff.rfl,fun _=>Iff.rfl⟩;have hw:Wk (rnC a b (S.length+1) (S.length+2) B (B+1)) (B+2) 0 false (fun l=>l=B) (fun l=>l=S.length+1∨l=S.length+2∨l=B+1) U4:=⟨w2,hrs,by omega,by omega,trivial⟩;have ld4:ldS U4 (.ptr S.length 0 0 1) (some 8)=some s.v:=by simp[ldS,f0]
 simp[g3,g4,g5,g6,g7,qG,stS,ldS,zj,Zq,qB,qF,qh];rw[←hB,←hU4];simp[f0];clear hU4;refine qi (qa5 (rnC a b (S.length+1) (S.length+2) B (B+1)) (qnF a b _ _ _ _) (B+2) s hs hsz false _ _ U4 hw (qrt hn (by show 4000≤100001;omega))) ?_;rintro r Y ⟨hr,F2,D2,kw,sw⟩;have hr':r=(s.wholeQ (rnR a b)).v:=by rw[hr];exact congrArg Sm.v (Sm.whole_rn a b s (qI h0).2)
 have kk:Rs a b (S.length+1) (S.length+2) B (B+1) (rnb a b (s.wholeH (rnP a b) false)) F2 D2 Y:=kw.st;have hca:rnb a b (s.wholeH (rnP a b) false)=(qia s a b).caught:=Sm.caught_rn a b s (qI h0).2 _ _ _ st0 ((qjP a b).enters _ _);rw[hca] at kk
 have kY:Kp (fun _=>False) U3 Y:=⟨qrt kU4.len sw.k.len,fun l hl hn=>by
  rw[sw.k.get l (by have:=kU4.len;omega) (by rintro (hh|hh) <;> omega)];exact kU4.get l hl hn⟩
 have kY':=(k2.trans kY).push [.arr [r] 8 1];have hr8:r.size=8∧r.cells.all V.flat=true∧V.part r 0 (some 8)=some r:=by rw[hr'];exact ⟨Sm.v_size _,by simp,ZY _⟩
 have hst:stS (Y++[.arr [smZ] 8 1]) (.ptr Y.length 0 0 1) 8 r=some (Y++[.arr [r] 8 1]):=by simp[stS,qh,hr8]
 simp only[smZ] at hst
 have hc:∀o,ldS (Y++[o]) (.ptr B 0 0 1) none=some (.bool (qia s a b).caught):=fun o=>by
  have h:(Y++[o])[B]?=_:=gp kk.g;simp[ldS,h]
 have hld:ldS (Y++[.arr [r] 8 1]) (.ptr Y.length 0 0 1) (some 8)=some r:=by simp[ldS,hr8]
 have c1:=kY'.at b1 id;simp[qG,hst,hc]
 cases hcg:(qia s a b).caught with
 | true=>
  rw[hcg,if_pos rfl] at he;simp[qB,qF,stS,c1,qh,g6,g7];refine fin _ smZ 10 _ kY' (hz (by rw[he];simp)) he ?_ ?_ rfl rfl
  ·simp[g6]
  ·simp
 | false=>
  rw[hcg,if_neg (by simp)] at he;have hv:leV s a b=r:=by unfold leV;rw[he,if_pos rfl,hr']
  simp[hld,stS,c1,qh,hr8,g6,g7];refine fin _ r 0 _ kY' hv he ?_ ?_ hr8.1 hr8.2.2
  ·simp[g6]
  ·simp
theorem qjz(a b:Bz)(hb:b.size≤B50):Shp (rnP a b) where
 le g hg x sc tg:=by cases hg;exact Pa.le_of' (qqY _) (yQ _)
 ok g hg x sc tg hx:=by
  cases hg
  cases x with
  | mk k o n m e t l=>
   obtain ⟨h1,h2,h3⟩:=hx;refine ⟨?_,h2,h3⟩;show (rnT a b sc t).size≤B50;unfold rnT;split
   ·exact hb
   ·exact h1
 f _ _ hx:=hx
 cl c hc x sc hx:=by
  cases hc;show (rnT a b sc x).size≤B50;unfold rnT;split
  ·exact hb
  ·exact hx
set_option linter.unusedSectionVars false
section
variable {lk:Lk} (h6:∀x y,lk x=some y→y.kind=6)
include h6
theorem qbr(t:Bz):qaK lk t=false:=by
 unfold qaK
 cases hy:lk t with
 | none=>rfl
 | some y=>simp[h6 _ _ hy]
theorem qfj(tg:Bool)(t:Bz):qeK lk tg t=false:=by
 unfold qeK
 cases hy:lk t with
 | none=>rfl
 | some y=>simp[h6 _ _ hy]
mutual
theorem Ex.sbad_name(tg:Bool):∀x:Ex,x.sbad lk tg=false
 | .mk k o n m e t a=>by rw[Ex.sbad,Ex.sbadl_name false a,qbr h6,qfj h6];simp
theorem Ex.sbadl_name(tg:Bool):∀l:List Ex,Ex.sbadl lk tg l=false
 | []=>rfl
 | x::l=>by rw[Ex.sbadl,Ex.sbad_name tg x,Ex.sbadl_name tg l];rfl
end
theorem El.sbadl_name:∀l:List El,El.sbadl lk l=false
 | []=>rfl
 | x::l=>by rw[El.sbadl,Ex.sbadl_name h6,El.sbadl_name l];rfl
mutual
theorem Sm.sbad_name:∀s:Sm,s.sbad lk=false
 | .mk l k t g e h d b=>by rw[Sm.sbad,Ex.sbadl_name h6,Ex.sbadl_name h6,El.sbadl_name h6,De.sbadl_name d,Sm.sbadl_name b,qbr h6];simp
theorem De.sbad_name:∀s:De,s.sbad lk=false
 | .mk k o t n e f b=>by rw[De.sbad,Ex.sbadl_name h6,Sm.sbadl_name b];rfl
theorem De.sbadl_name:∀l:List De,De.sbadl lk l=false
 | []=>rfl
 | x::l=>by rw[De.sbadl,De.sbad_name x,De.sbadl_name l];rfl
theorem Sm.sbadl_name:∀l:List Sm,Sm.sbadl lk l=false
 | []=>rfl
 | x::l=>by rw[Sm.sbadl,Sm.sbad_name x,Sm.sbadl_name l];rfl
end
end
theorem qlf{b:Bz}(hb:qb b=true):(Pa.ex (nmX b)).err qb=0:=by
 unfold Pa.err
 have hf:(Pa.ex (nmX b)).fits:=by
  unfold Pa.fits;rw[Pa.size_eq,Pa.depth_eq];simp[Pa.own,Pa.kids,nmX,Ex.args,qK,zr]
 rw[if_pos hf,if_pos (qbI hb)]
theorem qkE(a b:Bz):∀x y,lkN a b x=some y→y.kind=6:=fun x y h=>by
 rw[jR] at h;split at h
 ·cases h;rfl
 ·cases h
theorem qbf(s:Sm)(va:(Pa.st s).valid qb=true)(a b:Bz):(qia s a b).caught=true↔qaL (fun e=>rnQ a b e=true) s.evs:=by
 have h:=(qgU a b).sm s [qd s.labels 0] (qd s.labels 0).length st0 va;unfold qia;rw[h];exact ⟨fun hh=>hh.resolve_left (by simp[st0]),.inr⟩
section
variable {s:Sm} {a b:Bz} (h0:(Pa.st s).err qb=0) (ha:qb a=true) (hb:qb b=true) (hr:rnE s a b=0)
include h0 hr
theorem qfk:∀e,e∈s.evs→e.1=a→e.2.at e.1=none→e.2.at b=none:=by
 intro e he h1 h2
 have hc:¬ (qia s a b).caught=true:=fun h=>by
  unfold rnE at hr;rw[if_pos h] at hr;split at hr <;> cases hr
 rw[qbf s (qI h0).2] at hc
 cases hs:e.2.at b with
 | none=>rfl
 | some k=>
  refine absurd ⟨e,he,?_⟩ hc;show rnQ a b e=true;unfold rnQ;rw[hs,decide_eq_true ⟨h1,h2⟩];rfl
include ha hb
theorem qiM:qjL [(a,nmX b)]:=fun e he=>by
 simp only[qrN] at he;subst he;exact ⟨ha,qbI hb⟩
theorem qcJ:(s.whole yn).sbad (lkN a b)=false:=Sm.sbad_name (qkE a b) _
theorem JG:(Pa.st (s.wholeR (rnP a b))).valid qb=true:=by
 have he:=qiM h0 ha hb hr;rw[Sm.rn_sb_whole a b s (qI h0).2];exact Sm.wholeR_valid (g:=yn) he.lk he.v s (qI h0).2 (qcJ h0 ha hb hr)
theorem qnE:(Pa.st (s.wholeR (rnP a b))).err qb=0:=by
 unfold Pa.err;rw[if_pos (Sm.wholeR_fits (qjz a b (qrt (QV hb) (by decide))) s (qI h0).1),if_pos (JG h0 ha hb hr)]
theorem qc6:(s.wholeR (rnP a b)).whole yn=(s.whole yn).sb (lkL [(a,nmX b)]):=by
 have he:=qiM h0 ha hb hr;rw[Sm.rn_sb_whole a b s (qI h0).2];unfold Sm.whole Sm.wholeR;rw[Sm.wr_labels Jm];refine Sm.sb_w he.lk s _ _ (qI h0).2 (qcJ h0 ha hb hr) fun e hev hn y hy u hu=>?_
 rw[show lkL [(a,nmX b)] e.1=_ from jR a b e.1] at hy;split at hy
 ·rename_i hh;cases hy;simp[nmX,Ex.occ,Ex.occl,Ex.named] at hu;rw[hu];exact qfk h0 hr e hev hh.symm hn
 ·cases hy
theorem qpD(hl:s.frees.length+Sm.nb1 [s]≤300):(sE s [a] [nmX b]=0∨sE s [a] [nmX b]=2)∧
  (sE s [a] [nmX b]=0→(s.wholeR (rnP a b)).wholeR (nuP yn)=(suO s [a] [(a,nmX b)]).wholeR (nuP yn)):=by
 have he:=qiM h0 ha hb hr;have hoc:(nmX b).occ.length=1:=rfl;have l1:s.frees.length+Sm.nb1 [s]+(suT [a] [(a,nmX b)]).length≤899:=by rw[qch];omega
 refine ⟨qnY (l:=[a]) (xs:=[nmX b]) h0 (qkf.2 ⟨ha,qlf hb⟩) he l1 (qcJ h0 ha hb hr),fun g=>?_⟩;have o1:=qpr (l:=[a]) (xs:=[nmX b]) he l1 g;have v1:=o1.v;simp only[List.zip_cons_cons,List.zip_nil_right] at v1;rw[jp (JG h0 ha hb hr),jp v1,qc6 h0 ha hb hr];exact o1.w.symm
theorem qiE(hab:a≠b)(hf:b∉s.frees):rnE (s.wholeR (rnP a b)) b a=0∧(s.wholeR (rnP a b)).wholeR (rnP b a)=s:=by
 have va:=(qI h0).2;have he:=qiM h0 ha hb hr;have fr:=qfk h0 hr
 have bk:∀e,e∈s.evs→BkO a b e:=fun e hev=>by
  unfold BkO;by_cases h:e.1=a∧e.2.at e.1=none
  ·have h1:rnT a b e.2 e.1=b:=if_pos h;rw[h1];have h2:rnT b a e.2 b=a:=if_pos ⟨rfl,fr e hev h.1 h.2⟩;rw[h2,h.1]
  ·have h1:rnT a b e.2 e.1=e.1:=if_neg h;rw[h1];exact if_neg (fun hh:e.1=b∧e.2.at e.1=none=>hf (hh.1 ▸ s.ev_free va hev hh.2))
 obtain ⟨w1,w2⟩:=Sm.rn_back_whole a b s va bk;refine ⟨?_,w1⟩
 have hn:¬ (b≠a∧Q9 a (s.wholeR (rnP a b)).frees=true):=fun hh=>by
  have h2:=zo.1 hh.2;rcases (Sm.frees_sb va he (JG h0 ha hb hr) (qc6 h0 ha hb hr) (qcJ h0 ha hb hr) a).1 h2 with ⟨_,h3⟩|⟨y,x,h3,h4,h5⟩
  ·rw[show lkL [(a,nmX b)] a=_ from jR a b a,if_pos rfl] at h3;cases h3
  ·rw[show lkL [(a,nmX b)] y=_ from jR a b y] at h4;split at h4
   ·cases h4;simp[nmX,Ex.occ,Ex.occl,Ex.named] at h5;exact hab h5
   ·cases h4
 have hc:¬ (qia (s.wholeR (rnP a b)) b a).caught=true:=by
  rw[qbf _ (JG h0 ha hb hr),w2];rintro ⟨e',he',hq⟩;obtain ⟨e,hev,rfl⟩:=qrf.1 he';unfold rnQ rnO at hq;simp only[qq5,decide_eq_true_eq] at hq;obtain ⟨⟨q1,q2⟩,q3⟩:=hq;by_cases h:e.1=a∧e.2.at e.1=none
  ·rw[←h.1,h.2] at q3;cases q3
  ·have h1:rnT a b e.2 e.1=e.1:=if_neg h;rw[h1] at q1 q2;exact hf (q1 ▸ s.ev_free va hev q2)
 unfold rnE;rw[if_neg hn,if_neg hc]
end
theorem qkY(s:Sm)(a b:Bz):(leV s a b).size=8∧(leV s a b).cells.all V.flat=true∧V.part (leV s a b) 0 (some 8)=some (leV s a b):=by
 unfold leV;split
 ·exact ⟨Sm.v_size _,by simp,ZY _⟩
 ·exact ⟨rfl,rfl,rfl⟩
theorem qcz{s:Sm}{a b:Bz}(h:leE s a b=0):(Pa.st s).err qb=0∧qb a=true∧qb b=true∧rnE s a b=0:=by
 unfold leE at h;by_cases h0:(Pa.st s).err qb=0
 case neg=>rw[if_pos h0] at h;exact absurd h h0
 rw[if_neg (by rw[h0];simp)] at h;split at h
 ·rename_i hn;exact ⟨h0,hn.1,hn.2,h⟩
 ·cases h
theorem qdB{s:Sm}{a b:Bz}(h:leE s a b=0):leV s a b=(s.wholeR (rnP a b)).v:=by
 unfold leV;rw[if_pos h,Sm.whole_rn a b s (qI (qcz h).1).2]
theorem qns{s:Sm}(va:(Pa.st s).valid qb=true)(a b:Bz):Sm.nb1 [s.wholeR (rnP a b)]=Sm.nb1 [s]:=by
 have h1:(s.wholeR (rnP a b)).nb=s.nb:=Sm.nb_wr (Jx a b) s _ _ va;have h2:(s.wholeR (rnP a b)).labels=s.labels:=Sm.wr_labels (Jx a b) _ _ s;simp only[Sm.nb1,h1,h2]
open Classical in
theorem qpv(s:Sm)(a b:Bz)(os:s.ok)(hb:b.size≤B50):Fn prog 7 [s.v,.str a,.str b] [] (.bool true):=by
 refine qt.ib func7 ok7 ?_;obtain ⟨S1,hS1⟩:∃S1:St,S1=[.arr [s.v] 8 1]:=⟨_,rfl⟩;have b0:S1[0]?=some (.arr [s.v] 8 1):=by rw[hS1];rfl
 have ld:∀{U:St},Kp (fun _=>False) S1 U→ldS U (.ptr 0 0 0 1) (some 8)=some s.v:=fun k=>by
  have c0:=k.at b0 id;simp[ldS,c0]
 have d0:=ld (Kp.refl _ S1);simp[c7,qG];rw[←hS1];simp[d0];refine qg (qoN s os S1) ?_
 cases la:s.light with
 | false=>
  simp;refine qg (ZQ S1) ?_;simp;exact qa rfl rfl rfl
 | true=>
 have zs:=ky la;have ns:=qn6 la;have lf:=s.frees_len0;have lb:=s.binds_len0;simp[d0];refine qi (qfN s os (by omega) (by omega) a b S1) ?_;rintro r V0 ⟨rfl,k0⟩;have y0:=qkY s a b;have k0:=k0.push [.arr [leV s a b] 8 1];have p0:=ld k0;simp[qG,stZ y0,p0];obtain ⟨W0,hW0⟩:∃W,W=V0++[.arr [leV s a b] 8 1]:=⟨_,rfl⟩;have l0:∀{W},Kp (fun _=>False) W0 W→ldS W (.ptr V0.length 0 0 1) (some 8)=some (leV s a b):=fun k=>ldZ y0 (by rw[←hW0];exact k)
 rw[←hW0] at k0 ⊢;refine qi (qn1 s os (by omega) (by omega) W0) ?_;rintro r U1 ⟨rfl,k1⟩;have p0:=ld (k0.trans k1);simp[p0];refine qi (qnV s os (by omega) (by omega) U1) ?_;rintro r U2 ⟨rfl,k2⟩;have j2:=k1.trans k2;have k2:=k0.trans j2;have p0:=ld k2;by_cases he:leE s a b=0
 case neg=>
  simp[he];refine qg (ZQ U2) ?_;simp;exact qa rfl rfl rfl
 obtain ⟨h0,na,nb,hr⟩:=qcz he;have fs:∀z:Bz,fits 1 [V.str z]=true:=fun _=>rfl
 have fn:fits 7 [nmV b]=true:=rfl;simp[he,h0,p0,fs];obtain ⟨D,hD⟩:∃D,D=U2++phs [V.agg [.sl true [],.int .i64 0,.str ⟨⟨[]⟩⟩,.sl true [],.sl true [],.sl true [],.sl true [],.sl true []]]:=⟨_,rfl⟩;have bD:D[U2.length]?=some (.arr [smZ] 8 1):=by rw[hD];simp[phs,smZ]
 have kD:Kp (fun _=>False) U2 D:=by rw[hD];exact (Kp.refl _ _).push _
 have pD:=ld (k2.trans kD);rw[←hD];simp[pD,fs];refine Qs (qo1 b D) ?_;simp[fn];refine Qd (qke s os (by omega) a b hb (by omega) D) ⟨_,D,rfl,Kp.refl _ _⟩ ?_;rintro r V1 ⟨rfl,k3⟩;have bV:=k3.at bD id;have y1:=qqK s [a] [nmX b];have hst:stS V1 (.ptr U2.length 0 0 1) 8 (sV s [a] [nmX b])=some (V1.set U2.length (.arr [sV s [a] [nmX b]] 8 1)):=by simp[stS,bV,smZ,qh,y1]
 have pV:=ld (k2.trans (kD.trans k3));have jW:Kp (fun _=>False) W0 (V1.set U2.length (.arr [sV s [a] [nmX b]] 8 1)):=(j2.trans (kD.trans k3)).set _ (.inr j2.len);obtain ⟨W1,hW1⟩:∃W,W=V1.set U2.length (.arr [sV s [a] [nmX b]] 8 1):=⟨_,rfl⟩;have bW:W1[U2.length]?=some (.arr [sV s [a] [nmX b]] 8 1):=by rw[hW1];exact qqV (glt bV)
 have l1:∀{W},Kp (fun _=>False) W1 W→ldS W (.ptr U2.length 0 0 1) (some 8)=some (sV s [a] [nmX b]):=fun k=>by
  have c:=k.at bW id;simp[ldS,c,y1]
 rw[←hW1] at hst jW;have v0:=qdB he;obtain ⟨t1,t2⟩:=qpD h0 na nb hr (by omega);have et:=qnE h0 na nb hr;have ot:(s.wholeR (rnP a b)).ok:=Sm.wholeR_ok (qjz a b hb).toSok s os;have nt:=qns (qI h0).2 a b;have bk:=qiE h0 na nb hr;obtain ⟨t,ht⟩:∃t,t=s.wholeR (rnP a b):=⟨_,rfl⟩;rw[←ht] at v0 t2 et ot nt bk;have zt:=(Sm.nb1_100 (qI et).1).1;have mt:∀{W},Kp (fun _=>False) W0 W→ldS W (.ptr V0.length 0 0 1) (some 8)=some t.v:=fun k=>by rw[←v0];exact l0 k
 have hl:s.frees.length+Sm.nb1 [s]+(suT [a] [(a,nmX b)]).length≤899:=by rw[qch];have h:(nmX b).occ.length=1:=rfl;omega
 have back:a≠b→b∉s.frees→leE t b a=0∧leV t b a=s.v:=fun hab hf=>by
  obtain ⟨g1,g2⟩:=bk hab hf
  have g3:leE t b a=0:=by
   unfold leE;rw[if_neg (by rw[et];simp),if_pos ⟨nb,na⟩];exact g1
  exact ⟨g3,by rw[qdB g3,g2]⟩
 rcases t1 with e1|e1
 ·have v1:sV s [a] [nmX b]=(suO s [a] [(a,nmX b)]).v:=if_pos e1;obtain ⟨_,_,_,_,r1⟩:=qoF e1;have o1:=qoG s a (nmX b) os (qjD b hb) (qI h0).2 hl;have m0:=mt jW;have m1:=l1 (Kp.refl _ W1);rw[v1] at m1;simp[hst,QZ,zW,yp,pD,pV,bD,bV,smZ,e1,m0,m1];refine qi (qmg t _ ot o1 et r1 (by omega) (t2 e1) W1) ?_;rintro r X ⟨rfl,k4⟩;have jX:=jW.trans k4;have kX:=k0.trans jX;by_cases hab:a=b
  ·simp[hab];refine qg (ZQ X) ?_;simp;exact qa rfl rfl rfl
  simp[hab];refine qg (qdm false s.frees b X (by omega)) ?_
  cases hbf:Q9 b s.frees with
  | true=>
   simp;refine qg (ZQ X) ?_;simp;exact qa rfl rfl rfl
  | false=>
  simp;refine qg (qdm false s.binds b X (by omega)) ?_
  cases hbb:Q9 b s.binds with
  | true=>
   simp;refine qg (ZQ X) ?_;simp;exact qa rfl rfl rfl
  | false=>
  obtain ⟨g1,g2⟩:=back hab (Yp.1 hbf);have m0:=mt jX;simp[m0];refine qi (qfN t ot zt (by omega) b a X) ?_;rintro r Y ⟨rfl,k5⟩;have y2:=qkY t b a;have j5:=k5.push [.arr [leV t b a] 8 1];have pY:=ld (kX.trans j5);have m2:=ldZ y2 (Kp.refl _ (Y++[.arr [leV t b a] 8 1]));rw[g2] at y2 m2 pY ⊢;simp[qG,stZ y2,g1];refine qg (ZQ _) ?_;simp[pY,m2];refine qg (qjn s s os os (qI h0).1 (qI h0).1 _) ?_;simp;exact qa rfl rfl rfl
 ·simp[hst,QZ,zW,yp,pD,pV,bD,bV,smZ,e1];have kX:=k0.trans jW;by_cases hab:a=b
  ·simp[hab];refine qg (ZQ W1) ?_;simp;exact qa rfl rfl rfl
  simp[hab];refine qg (qdm false s.frees b W1 (by omega)) ?_
  cases hbf:Q9 b s.frees with
  | true=>
   simp;refine qg (ZQ W1) ?_;simp;exact qa rfl rfl rfl
  | false=>
  simp;refine qg (qdm false s.binds b W1 (by omega)) ?_
  cases hbb:Q9 b s.binds with
  | true=>
   simp;refine qg (ZQ W1) ?_;simp;exact qa rfl rfl rfl
  | false=>
  obtain ⟨g1,g2⟩:=back hab (Yp.1 hbf);have m0:=mt jW;simp[m0];refine qi (qfN t ot zt (by omega) b a W1) ?_;rintro r Y ⟨rfl,k5⟩;have y2:=qkY t b a;have j5:=k5.push [.arr [leV t b a] 8 1];have pY:=ld (kX.trans j5);have m2:=ldZ y2 (Kp.refl _ (Y++[.arr [leV t b a] 8 1]));rw[g2] at y2 m2 pY ⊢;simp[qG,stZ y2,g1];refine qg (ZQ _) ?_;simp[pY,m2];refine qg (qjn s s os os (qI h0).1 (qI h0).1 _) ?_;simp;exact qa rfl rfl rfl
end Go.Proofs.YtbifpocccfkhhaaGreatDoor
namespace Go.Proofs.YtbifpocccfkhhaaGreatDoor.copyBack
open Go Go.ChangeShapes Go.WideShapes Go.ChangeAt Go.RowKit
set_option maxRecDepth 100000
theorem own:ownKnob Tryz.prog.godebug=none:=by kernel_rfl
theorem contract(H:Type)(enc:TypeId×Value→H)(W:World)(base:Nat)(args:Array Value)(ds gs:List (DataW H))(before:List MemPlace)
  (hval:∀(j:Nat) t v,Tryz.f7.params[j]?=some t→args[j]?=some v→Value.okWide Tryz.prog W .any base t v)
  (hW:DataW.Whole enc Tryz.prog Tryz.f7.params.toList Rows.copyBackSpec.vars false W args.toList ds gs before)
  (hwt:(DataW.weightsEach Tryz.prog (Tryz.f7.params.toList++(OpenSpec.ofChange Rows.copyBackSpec).bare.plain.varTypes Tryz.prog) (ds++gs)).all (·≤reachBytes)=true) (hL:laidMetH Tryz.prog Rows.copyBackRow.laid W):
  Calls Tryz.prog 7 args W fun e W'=>∃v,e=.returned v∧Rows.copyBackSpec.post enc Tryz.prog Tryz.f7 false true false false W args v W':=by
 have hW':=hW;obtain ⟨p,q,hA0,hV,rfl,hfz,hnd⟩:=hW;have hA:DataW.TrodAll enc Tryz.prog W 0 (fun _=>true) true Tryz.f7.params.toList args.toList ds p:=hA0;rw[Tryz.params7] at hA hval hwt;obtain ⟨v0,vs0,d0,ds0,p0,q0,hv0,hd0,h0,hA0⟩:=trodAll_cons hA;obtain ⟨v1,vs1,d1,ds1,p1,q1,hv1,hd1,h1,hA1⟩:=trodAll_cons hA0;obtain ⟨v2,vs2,d2,ds2,p2,q2,hv2,hd2,h2,hA2⟩:=trodAll_cons hA1;obtain ⟨hve,hde⟩:=trodAll_nil hA2;have hds:ds=[d0,d1,d2]:=by rw[hd0,hd1,hd2,hde]
 have hargs:args=#[v0,v1,v2]:=by
  apply qsR.1;rw[hv0,hv1,hv2,hve]
 subst hds hargs;obtain ⟨rfl,rfl⟩:=trodVars_none hV;rw[qr8] at hwt;obtain ⟨a0,o0,r0⟩:=stmt_in (hval 0 28 v0 rfl rfl) h0 (fitw_of hwt (i:=0) rfl rfl);obtain ⟨a1,o1,r1⟩:=text_in (hval 1 9 v1 rfl rfl) h1 (fitw_of hwt (i:=1) rfl rfl);obtain ⟨a2,o2,r2⟩:=text_in (hval 2 9 v2 rfl rfl) h2 (fitw_of hwt (i:=2) rfl rfl);refine law_of (qpv a0 a1 a2 o0 o2) (SR.start hL) ⟨rfl,fun i v u hv hu=>?_⟩ (by kernel_rfl) rfl rfl hW' rfl
 match i,hv,hu with
 | 0,hv,hu=>cases hv;cases hu;exact r0
 | 1,hv,hu=>cases hv;cases hu;exact r1
 | 2,hv,hu=>cases hv;cases hu;exact r2
noncomputable def laidWorld(os:Os):World:=
 let N:=(World.settled Tryz.prog os).heap.size
 let w0:=World.holding Tryz.prog os ⟨#[.cells (#[9,13,1,32,133,101,160,5760,5600,8192,8202,1,8232,8233,1,8239,8287,48,12288,12288,1].map fun (z:Nat)=>Value.int .u16 (z:Int)) 279,.cells #[.slice (some ⟨N,0,none⟩) 7 7,.slice none 0 0,.int .i64 2] 276],#[],[]⟩
 let put (h:Array Obj) (g:Nat) (cs:Array Value):Array Obj:=h.modify g fun
  | .cells _ t frozen=>.cells cs t frozen
  | o=>o
 let h1:=put w0.heap 0 (Lib.asciiSpaceTab.map fun z=>Value.int .u8 z).toArray
 let h2:=put h1 1 #[.pointer (some ⟨N+1,0,none⟩)]
 let h3:=put h2 2 (Lib.pow10Tab.map fun z=>Value.int .u64 z).toArray
 let h4:=put h3 3 (#[0,1,28,2,29,14,24,3,30,22,20,15,25,17,4,8,31,27,13,23,21,19,16,7,26,12,18,6,11,5,10,9].map fun (z:Nat)=>Value.int .u8 (z:Int))
 let h5:=put h4 4 (#[0,1,56,2,57,49,28,3,61,58,42,50,38,29,17,4,62,47,59,36,45,43,51,22,53,39,33,30,24,18,12,5,63,55,48,27,60,41,37,16,46,35,44,21,52,32,23,11,54,26,40,15,34,20,31,10,25,14,19,9,13,8,7,6].map fun (z:Nat)=>Value.int .u8 (z:Int))
 { w0 with heap:=h5 }
def wArgs:Array Value:=#[.agg #[.slice none 0 0,.int .i64 0,.string ⟨#[]⟩,.slice none 0 0,.slice none 0 0,.slice none 0 0,.slice none 0 0,.slice none 0 0],.string ⟨#[]⟩,.string ⟨#[]⟩]
theorem laid_met(os:Os):laidMet Tryz.prog Rows.copyBackRow.laid ((laidWorld os).forCall (fun _ _=>0) ⟨#[],wArgs,[]⟩).memory:=
 laidMet_of_run' 10 (by kernel_rfl) (by kernel_rfl)
theorem reads(os:Os){H:Type}(enc:TypeId×Value→H):∃places,DataW.whole enc Tryz.prog ((laidWorld os).forCall (fun _ _=>0) ⟨#[],wArgs,[]⟩).memory Tryz.f7.params.toList Rows.copyBackSpec.vars false wArgs.toList 8=some ([.agg [.nil,.lit (.int .i64 0),.lit (.string []),.nil,.nil,.nil,.nil,.nil],.lit (.string []),.lit (.string [])],[],places):=
 ⟨[],by kernel_rfl⟩
theorem lifted(os:Os)(started:os.Started)(H:Type)(enc:TypeId×Value→H)(F:Stop.Interp):
  ReturnsInHanded {} Tryz.checked os 7 .any ((OpenSpec.ofChange Rows.copyBackSpec).preRow enc Tryz.prog Tryz.f7 Rows.copyBackRow.domain false Rows.copyBackRow.laid) (((OpenSpec.ofChange Rows.copyBackSpec).at F).post enc Tryz.prog Tryz.f7 false true false false):=by
 obtain ⟨places,hx⟩:=reads os enc;refine returnsInHanded_of_row (C:=Tryz.checked) (s:=OpenSpec.ofChange Rows.copyBackSpec) own started (by kernel_rfl) Tryz.func7
  (witness_row_atRef (enc:=enc) (C:=Tryz.checked) false (laidWorld os) wArgs rfl (by kernel_rfl) (by kernel_rfl) (by kernel_rfl)
   (OpenSpec.preRow_of_cond 8 hx (by kernel_rfl) (fun k hk=>by cases hk) (by kernel_rfl) (laid_met os))) ?_
 intro W base args ds gs before hval hW _ _ hwt hL _ _;exact contract H enc W base args ds gs before hval hW hwt hL
theorem andT{a b:Bool}(ha:a=true)(hb:b=true):(a && b)=true:=by rw[ha,hb];rfl
theorem fact1:Rows.copyBackRow.wf (OpenSpec.ofChange (OpenSpec.ofChange Rows.copyBackSpec).bare)=true:=by kernel_rfl
theorem fact2:laidOutB Tryz.prog=true:=by kernel_rfl
theorem fact3:mapsRowed Tryz.prog=true:=by kernel_rfl
theorem fact4:Tryz.f7.params.all (Tryz.prog.readableRec ·)=true:=by kernel_rfl
theorem fact5:namedTie Tryz.prog Rows.copyBackRow.named (OpenSpec.ofChange Rows.copyBackSpec).bare.vars=true:=by kernel_rfl
theorem fact6:(Rows.copyBackRow.stops==[])=true:=by kernel_rfl
theorem fact7:(Tryz.prog.stops==[])=true:=by kernel_rfl
theorem fact8:(Rows.copyBackRow.knobs==[])=true:=by kernel_rfl
theorem fact9:(Tryz.prog.stopKnobs==[])=true:=by kernel_rfl
theorem fact10:(Rows.copyBackRow.inPlace==Tryz.prog.inPlace 7)=true:=by kernel_rfl
theorem fact11:(Rows.copyBackRow.unfollowed==Tryz.prog.unfollowed 7)=true:=by kernel_rfl
theorem fact12:(Rows.copyBackRow.recurses==Tryz.prog.recurses 7)=true:=by kernel_rfl
theorem fact13:(Rows.copyBackRow.named==Tryz.prog.varsNamed 7)=true:=by kernel_rfl
theorem fact14:(Rows.copyBackRow.maps==(Tryz.f7.params.toList++(OpenSpec.ofChange Rows.copyBackSpec).bare.plain.varTypes Tryz.prog).any (Tryz.prog.mapsRec ·))=true:=by kernel_rfl
theorem fact15:(Rows.copyBackRow.ifaces==(Tryz.f7.params.toList++(OpenSpec.ofChange Rows.copyBackSpec).bare.plain.varTypes Tryz.prog).any (Tryz.prog.ifacesRec ·))=true:=by kernel_rfl
theorem fact16:(Rows.copyBackRow.mapsOut==Tryz.prog.mapsAmong Tryz.f7.resultTypes.toList)=true:=by kernel_rfl
theorem fact17:(Rows.copyBackRow.loops==(Tryz.f7.params.toList++(OpenSpec.ofChange Rows.copyBackSpec).bare.plain.varTypes Tryz.prog).any (Tryz.prog.loopsFrom ·))=true:=by kernel_rfl
theorem fact18:(Rows.copyBackRow.wideKeys==((Tryz.f7.params.toList++(OpenSpec.ofChange Rows.copyBackSpec).bare.plain.varTypes Tryz.prog)++Tryz.f7.resultTypes.toList).any (Tryz.prog.wideKeysFrom ·))=true:=by kernel_rfl
theorem fact19:(OpenSpec.ofChange Rows.copyBackSpec).bare.vars.all (Tryz.prog.varReadable ·)=true:=by kernel_rfl
theorem fact20:Tryz.f7.resultTypes.all (fun t=>Tryz.prog.readableRec t && decide (t<Tryz.prog.types.size))=true:=by kernel_rfl
theorem fact21:(Rows.copyBackRow.ifacesOut==Tryz.f7.resultTypes.toList.any (Tryz.prog.ifacesRec ·))=true:=by kernel_rfl
theorem fact22:(Rows.copyBackRow.loopsOut==Tryz.f7.resultTypes.toList.any (Tryz.prog.loopsFrom ·))=true:=by kernel_rfl
theorem fact23:(Rows.copyBackRow.plainKeys==Tryz.prog.plainKeys)=true:=by kernel_rfl
theorem fact24:Rows.copyBackRow.shortTexts.isNone=true:=by kernel_rfl
theorem fact25:Tryz.prog.stopsHeard=true:=by kernel_rfl
theorem fact26:Tryz.prog.mayEnter=true:=by kernel_rfl
theorem fact27:(Rows.copyBackRow.lifted==Tryz.prog.liftsFinal)=true:=by kernel_rfl
theorem fact28:(Tryz.prog.make==some Rows.copyBackRow.make)=true:=by kernel_rfl
theorem fact29:(Rows.copyBackRow.kinds==(if Rows.copyBackRow.domain.isEmpty then [] else Tryz.f7.params.toList.map fun t=>match Tryz.prog.underlying t with|some (.int k)=>some k|_=>none))=true:=by kernel_rfl
theorem fact30:(Rows.copyBackRow.pinned==Rows.copyBackRow.pinnedBy)=true:=by kernel_rfl
theorem fact31:(Rows.copyBackRow.veiled==((Tryz.f7.params.toList++(OpenSpec.ofChange Rows.copyBackSpec).bare.plain.varTypes Tryz.prog)++Tryz.f7.resultTypes.toList).any (Tryz.prog.veiledRec ·))=true:=by kernel_rfl
theorem fact32:Rows.copyBackRow.veiledFits Tryz.prog Tryz.f7.params.toList ((Tryz.f7.params.toList++(OpenSpec.ofChange Rows.copyBackSpec).bare.plain.varTypes Tryz.prog)++Tryz.f7.resultTypes.toList)=true:=by kernel_rfl
theorem facts:joinedFacts Tryz.pinned.checked.prog 7 Tryz.f7 (OpenSpec.ofChange Rows.copyBackSpec).bare Rows.copyBackRow=true:=(andT (andT (andT (andT (andT (andT (andT (andT (andT (andT (andT (andT (andT (andT (andT (andT (andT (andT (andT (andT (andT (andT (andT (andT (andT (andT (andT (andT (andT (andT (andT fact1 fact2) fact3) fact4) fact5) fact6) fact7) fact8) fact9) fact10) fact11) fact12) fact13) fact14) fact15) fact16) fact17) fact18) fact19) fact20) fact21) fact22) fact23) fact24) fact25) fact26) fact27) fact28) fact29) fact30) fact31) fact32)
theorem name7:Tryz.pinned.checked.prog.funcNamed Rows.copyBackRow.func=some 7:=by kernel_rfl
theorem inst7:Tryz.f7.isInstance Tryz.pinned.checked.prog Rows.copyBackRow.origin Rows.copyBackRow.targs:=of_decide_eq_true (by kernel_rfl)
theorem wrap7:Tryz.f7.isWrapper Tryz.pinned.checked.prog Rows.copyBackRow.wrapper Rows.copyBackRow.mainSum:=by unfold Func.isWrapper;first|(rw[if_pos (by decide+kernel)];kernel_rfl)|(rw[if_neg (by decide+kernel)];exact ⟨rfl,rfl⟩)
theorem said:Rows.CopyBackSaid:=
 OpenClaim.holds_of_cond 7 Tryz.f7 rfl rfl rfl rfl rfl rfl rfl ⟨rfl,rfl,rfl,rfl,rfl⟩ rfl rfl rfl rfl rfl name7 Tryz.func7 facts inst7 wrap7
  (fun os started H enc _ F=>by rw[OpenClaim.pre_eq_preRow];exact lifted os started H enc F)
theorem looksT:false=Tryz.pinned.checked.prog.looks []:=by kernel_rfl
theorem stand9:Tryz.prog.wantsStandIn 9=false:=by kernel_rfl
theorem stand28:Tryz.prog.wantsStandIn 28=false:=by kernel_rfl
theorem named7 : Tryz.prog.funcNamed "manorboy/manorboylaw09.CopyBack" = some 7 := by kernel_rfl
theorem plain (f : FuncId) (fn : Func) (hf : Tryz.pinned.checked.prog.funcNamed "manorboy/manorboylaw09.CopyBack" = some f) (hfn : Tryz.pinned.checked.prog.funcs[f]? = some fn) :
  false=Tryz.pinned.checked.prog.looks []∧∀(j:Nat) t,fn.params[j]?=some t→Tryz.pinned.checked.prog.wantsStandIn t=false:=by
 obtain rfl:f=7:=Option.some.inj (named7.symm.trans hf) |>.symm;obtain rfl:fn=Tryz.f7:=(Option.some.inj (Tryz.func7.symm.trans hfn)).symm;refine ⟨looksT,fun j t ht=>?_⟩;rw[Tryz.params7] at ht;have:=Array.mem_of_getElem? ht;simp at this;rcases this with rfl|rfl
 ·exact stand9
 ·exact stand28
theorem wfText:Rows.copyBackRow.wfByText (OpenSpec.ofChange Rows.copyBackSpec)=true:=by kernel_rfl
theorem mainT:Tryz.pinned.checked.prog.mainIs=some (Rows.copyBackCard.stood.harness.1,Rows.copyBackCard.stood.harness.2.toList):=by kernel_rfl
theorem goesT:false=Rows.copyBackRow.goesBy Tryz.pinned.checked.prog:=by kernel_rfl
theorem card:Rows.CopyBackCardSaid:=
 Claim7.holds_tied_plain_at .later [] _ _ _ _ said (fun _ h=>by cases h) wfText (fun _ h=>by cases h) copyBack_row_tie rfl ⟨rfl,rfl⟩ mainT rfl plain goesT
end Go.Proofs.YtbifpocccfkhhaaGreatDoor.copyBack
namespace Go.Proofs.YtbifpocccfkhhaaGreatDoor
theorem copyBack_holds:Rows.CopyBackCardSaid:=copyBack.card
end Go.Proofs.YtbifpocccfkhhaaGreatDoor
end
