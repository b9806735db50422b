/- The statement CopySizes holds: for every statement, a name and two expressions the law returns true and changes nothing. Conditions: none. -/
import Derived.Test.YtbifpocccfkhhaaGreatDoorUn
set_option linter.all false
noncomputable section
namespace Go.Proofs.YtbifpocccfkhhaaGreatDoor
open Go
mutual
def Ex.ct(q:Bz→Bool):Ex→Nat
 | .mk k _ _ _ _ t a=>if k=6∧q t=true then 1 else Ex.ctl q a
def Ex.ctl(q:Bz→Bool):List Ex→Nat
 | []=>0
 | x::l=>Ex.ct q x+Ex.ctl q l
end
def El.ctl(q:Bz→Bool):List El→Nat
 | []=>0
 | x::l=>Ex.ctl q x.exps+El.ctl q l
mutual
def Sm.ct(q:Bz→Bool):Sm→Nat
 | .mk _ _ _ g e h d b=>Ex.ctl q g+Ex.ctl q e+El.ctl q h+De.ctl q d+Sm.ctl q b
def De.ct(q:Bz→Bool):De→Nat
 | .mk _ _ _ _ e _ b=>Ex.ctl q e+Sm.ctl q b
def De.ctl(q:Bz→Bool):List De→Nat
 | []=>0
 | x::l=>De.ct q x+De.ctl q l
def Sm.ctl(q:Bz→Bool):List Sm→Nat
 | []=>0
 | x::l=>Sm.ct q x+Sm.ctl q l
end
theorem Ex.size_mk(k o n m e:Int)(t:Bz)(a:List Ex):(Pa.ex (.mk k o n m e t a)).size=1+qA (a.map Pa.ex):=by rw[Pa.size_eq];rfl
theorem Sm.size_mk(l:List Bz)(k:Int)(t:Bz)(g e:List Ex)(h:List El)(d:List De)(b:List Sm):(Pa.st (.mk l k t g e h d b)).size=1+l.length+(qA (g.map Pa.ex)+(qA (e.map Pa.ex)+(qA (h.map Pa.el)+(qA (d.map Pa.de)+qA (b.map Pa.st))))):=by
 rw[Pa.size_eq];simp only[Pa.kids,Sm.targets,Sm.exps,Sm.elems,Sm.decls,Sm.body,zc];rfl
theorem De.size_mk(k:Int)(o:Bool)(t:Int)(n:List Bz)(e:List Ex)(f:List Fo)(b:List Sm):(Pa.de (.mk k o t n e f b)).size=1+n.length+f.length+(qA (e.map Pa.ex)+qA (b.map Pa.st)):=by
 rw[Pa.size_eq];simp only[Pa.kids,De.exps,De.body,zc];rfl
theorem El.size_mk(x:El):(Pa.el x).size=1+qA (x.exps.map Pa.ex):=by rw[Pa.size_eq];rfl
set_option linter.unusedSectionVars false
section
variable {lk:Lk} {g:Nat→Bz} {q:Bz→Bool} {A:Nat} (hA:∀t z,lk t=some z→(Pa.ex z).size=A) (hq:∀t,q t=(lk t).isSome) {nm:Bz→Bool}
include hA hq
mutual
theorem Ex.sb_sz(sc:Scs):∀x:Ex,(Pa.ex x).valid nm=true→(Pa.ex ((x.w g sc).sb lk)).size+(x.w g sc).ct q=(Pa.ex x).size+(x.w g sc).ct q * A
 | .mk k o n m e t a,v=>by
  have h1:=Ex.sb_szl sc a (Ex.valid_args v);have hv:=(Pa.valid_iff.1 v).1;rw[Ex.w,Ex.ct,Ex.sb];generalize (if Ex.named k=true then zn g sc t else t)=T;by_cases h6:k=6
  ·subst h6;simp[Pa.vOwn,Ex.vOwn] at hv;obtain ⟨⟨⟨⟨_,rfl⟩,_⟩,_⟩,_⟩:=hv;rw[if_pos rfl,hq T]
   cases hy:lk T with
   | some z=>
    have:=hA T z hy;simp only[Option.isSome_some,and_self,if_true];rw[this,Ex.size_mk];show A+1=1+qA []+1 * A;have h0:qA []=0:=rfl;rw[h0];omega
   | none=>
    simp only[qsB,qq1,and_false,if_false];rw[Ex.size_mk,Ex.size_mk];omega
  ·rw[if_neg h6,if_neg (fun h:k=6∧q T=true=>h6 h.1),Ex.size_mk,Ex.size_mk];omega
theorem Ex.sb_szl(sc:Scs):∀l:List Ex,(∀x,x∈l→(Pa.ex x).valid nm=true)→qA ((Ex.sbl lk (Ex.wl g sc l)).map Pa.ex)+Ex.ctl q (Ex.wl g sc l)=qA (l.map Pa.ex)+Ex.ctl q (Ex.wl g sc l) * A
 | [],_=>by rw[Ex.wl,Ex.sbl,Ex.ctl];simp
 | x::l,v=>by
  have h1:=Ex.sb_sz sc x (v x (by simp));have h2:=Ex.sb_szl sc l fun y hy=>v y (by simp[hy])
  rw[Ex.wl,Ex.sbl,Ex.ctl,qqH,qqH,sizes_cons,sizes_cons,qq7];omega
end
theorem El.sb_szl(sc:Scs):∀l:List El,(∀x,x∈l→(Pa.el x).valid nm=true)→qA (((l.map (El.w g sc)).map (El.sb lk)).map Pa.el)+El.ctl q (l.map (El.w g sc))=qA (l.map Pa.el)+El.ctl q (l.map (El.w g sc)) * A
 | [],_=>by simp[El.ctl]
 | x::l,v=>by
  have hx:(El.w g sc x).exps=Ex.wl g sc x.exps:=by unfold El.w;rw[Ex.wl_map]
  have h1:=Ex.sb_szl hA hq (g:=g) sc x.exps (El.valid_exps (v x (by simp)));have h2:=El.sb_szl sc l fun y hy=>v y (by simp[hy])
  have h3:(El.sb lk (El.w g sc x)).exps=Ex.sbl lk (Ex.wl g sc x.exps):=by rw[←hx];rfl
  rw[qqH,qqH,qqH,qqH,El.ctl,sizes_cons,sizes_cons,El.size_mk,El.size_mk,h3,hx,qq7];omega
mutual
theorem Sm.sb_sz:∀(s:Sm) (sc:Scs) (n:Nat),(Pa.st s).valid nm=true→(Pa.st ((s.w g sc n).sb lk)).size+(s.w g sc n).ct q=(Pa.st s).size+(s.w g sc n).ct q * A
 | .mk l k t gs e hh d b,sc,n,v=>by
  obtain ⟨v7,v8,v9⟩:=Sm.valid_block v;have vd:=Sm.valid_decls v;have vb:=Sm.valid_body v;simp only[Sm.decls,Sm.body] at vd vb;by_cases h7:k=7
  ·obtain ⟨rfl,rfl,rfl⟩:=v7 h7;have h1:=De.sb_szl d (qd (qf d b) n::sc) sc (n+(qd (qf d b) n).length) vd;have h2:=Sm.sb_szl b (qd (qf d b) n::sc) (n+(qd (qf d b) n).length+De.nbl d) vb;simp only[Sm.w,if_pos h7];rw[Sm.sb,Sm.ct,Sm.size_mk,Sm.size_mk,qqF];simp only[Ex.sbl,Ex.ctl,El.ctl,qrh,qq7,Nat.zero_mul];omega
  ·by_cases h8:k=8
   ·obtain ⟨rfl,rfl,rfl,rfl⟩:=v8 h8;have h2:=Sm.sb_szl b (qd (ql b) n::sc) (n+(qd (ql b) n).length) vb;simp only[Sm.w,if_neg h7,if_pos h8];rw[Sm.sb,Sm.ct,Sm.size_mk,Sm.size_mk,qqF];simp only[Ex.sbl,Ex.ctl,El.ctl,De.sbl,De.ctl,qrh,qq7,Nat.zero_mul];omega
   ·obtain rfl:=v9 h7 h8;have h1:=Ex.sb_szl hA hq (g:=g) sc gs (Sm.valid_targets v);have h2:=Ex.sb_szl hA hq (g:=g) sc e (Sm.valid_exps v);have h3:=El.sb_szl hA hq (g:=g) sc hh (Sm.valid_elems v);have h4:=Sm.sb_sz1 b sc n vb;simp only[Sm.w,if_neg h7,if_neg h8];rw[Sm.sb,Sm.ct,Sm.size_mk,Sm.size_mk,qqF];simp only[De.sbl,De.ctl,qrh,qq7,Nat.zero_mul];omega
theorem De.sb_sz:∀(s:De) (own sc:Scs) (n:Nat),(Pa.de s).valid nm=true→(Pa.de ((s.w g own sc n).sb lk)).size+(s.w g own sc n).ct q=(Pa.de s).size+(s.w g own sc n).ct q * A
 | .mk k o t ns e fo b,own,sc,n,v=>by
  obtain ⟨v4,v5⟩:=De.valid_proc v;have vb:=De.valid_body v;simp only[De.body] at vb;by_cases h4:k=4
  ·obtain rfl:=v4 h4;have h1:=Sm.sb_sz1 b (qd (fo.map Fo.name) n::own) (n+(qd (fo.map Fo.name) n).length) vb;simp only[De.w,if_pos h4];rw[De.sb,De.ct,De.size_mk,De.size_mk,qqF,qqF];simp only[Ex.sbl,Ex.ctl,qrh,qq7,Nat.zero_mul];omega
  ·obtain ⟨rfl,rfl⟩:=v5 h4;have h1:=Ex.sb_szl hA hq (g:=g) (if k=2 then sc else own) e (De.valid_exps v);simp only[De.w,if_neg h4];rw[De.sb,De.ct,De.size_mk,De.size_mk,qqF];simp only[Sm.sbl,Sm.ctl,qrh,qq7,Nat.zero_mul];omega
theorem De.sb_szl:∀(l:List De) (own sc:Scs) (n:Nat),(∀x,x∈l→(Pa.de x).valid nm=true)→qA ((De.sbl lk (De.wl g own sc n l)).map Pa.de)+De.ctl q (De.wl g own sc n l)=qA (l.map Pa.de)+De.ctl q (De.wl g own sc n l) * A
 | [],_,_,_,_=>by rw[De.wl,De.sbl,De.ctl];simp
 | x::l,own,sc,n,v=>by
  have h1:=De.sb_sz x own sc n (v x (by simp));have h2:=De.sb_szl l own sc (n+De.nb x) fun y hy=>v y (by simp[hy])
  rw[De.wl,De.sbl,De.ctl,qqH,qqH,sizes_cons,sizes_cons,qq7];omega
theorem Sm.sb_szl:∀(l:List Sm) (sc:Scs) (n:Nat),(∀x,x∈l→(Pa.st x).valid nm=true)→qA ((Sm.sbl lk (Sm.wl g sc n l)).map Pa.st)+Sm.ctl q (Sm.wl g sc n l)=qA (l.map Pa.st)+Sm.ctl q (Sm.wl g sc n l) * A
 | [],_,_,_=>by rw[Sm.wl,Sm.sbl,Sm.ctl];simp
 | x::l,sc,n,v=>by
  have h1:=Sm.sb_sz x sc n (v x (by simp));have h2:=Sm.sb_szl l sc (n+Sm.nb x) fun y hy=>v y (by simp[hy])
  rw[Sm.wl,Sm.sbl,Sm.ctl,qqH,qqH,sizes_cons,sizes_cons,qq7];omega
theorem Sm.sb_sz1:∀(l:List Sm) (sc:Scs) (n:Nat),(∀x,x∈l→(Pa.st x).valid nm=true)→qA ((Sm.sbl lk (Sm.w1 g sc n l)).map Pa.st)+Sm.ctl q (Sm.w1 g sc n l)=qA (l.map Pa.st)+Sm.ctl q (Sm.w1 g sc n l) * A
 | [],_,_,_=>by rw[Sm.w1,Sm.sbl,Sm.ctl];simp
 | x::l,sc,n,v=>by
  have h1:=Sm.sb_sz x (qd x.labels n::sc) (n+(qd x.labels n).length) (v x (by simp));have h2:=Sm.sb_sz1 l sc (n+(qd x.labels n).length+Sm.nb x) fun y hy=>v y (by simp[hy])
  rw[Sm.w1,Sm.sbl,Sm.ctl,qqH,qqH,sizes_cons,sizes_cons,qq7];omega
end
end
theorem Sm.whole_size{g:Nat→Bz}{nm:Bz→Bool}(s:Sm)(v:(Pa.st s).valid nm=true):(Pa.st (s.whole g)).size=(Pa.st s).size:=by
 have h:=Sm.sb_sz (lk:=fun _=>none) (g:=g) (q:=fun _=>false) (A:=1) (fun t z h=>by cases h) (fun t=>rfl) s [qd s.labels 0] (qd s.labels 0).length v;have h2:=Sm.sb_no_whole (lk:=fun _=>none) (g:=g) s fun e _=>rfl
 unfold Sm.whole at h2 ⊢;rw[h2] at h;omega
open Go.Proofs.Tryz
def JC(p:Pa):Int:=if p.fits then (p.size:Int) else 0
theorem qgw(p:Pa)(hp:p.ok):∀S,Fn prog 140 [p.v] S (.int .i64 (JC p)):=by
 refine Pu.ib func140 ok140 (by simp[c140]) (by simp[V.under]) rfl ?_;simp[c140,qE,ldS];refine qe (qj0 p hp _) ?_;by_cases h:p.fits
 ·have hm:QH p.size 2000=2000 - p.size:=by unfold QH;rw[if_pos (by have:=h.1;omega)]
  simp[h,ldS];refine qe (qft _ p (qqC _) hp 2000 (by omega) (by omega) _) ?_;have h1:=h.1;simp[hm,qn (n:=2000 - (2000 - (p.size:Int))) (by omega) (by omega)];exact qa rfl (by simp[qq,JC,h];try omega) rfl
 ·simp[h];exact qa rfl (by simp[qq,JC,h]) rfl
theorem qnA(s:Sm)(hs:s.ok):∀S,Fn prog 88 [s.v] S (.int .i64 (JC (.st s))):=by
 refine Pu.ib func88 ok88 (by simp[c88]) (by simp[V.under]) rfl ?_;simp[c88,qE,ldS];refine qe (qkj s _) ?_;simp;refine qe (qgw (.st s) hs _) ?_;simp;exact qa rfl rfl rfl
theorem qg3(s:Sm)(hs:s.ok):∀S,Fn prog 35 [s.v] S (.int .i64 (JC (.st s))):=by
 refine Pu.ib func35 ok35 (by simp[c35]) (by simp[V.under]) rfl ?_;simp[c35,qE,ldS];refine qe (qnA s hs _) ?_;simp;exact qa rfl rfl rfl
theorem qn4(s:Ex)(hs:s.ok):∀S,Fn prog 89 [s.v] S (.int .i64 (JC (.ex s))):=by
 refine Pu.ib func89 ok89 (by simp[c89]) (by simp[V.under]) rfl ?_;simp[c89,qE,ldS];refine qe (qj8 s _) ?_;simp;refine qe (qgw (.ex s) hs _) ?_;simp;exact qa rfl rfl rfl
theorem qjp(s:Ex)(hs:s.ok):∀S,Fn prog 36 [s.v] S (.int .i64 (JC (.ex s))):=by
 refine Pu.ib func36 ok36 (by simp[c36]) (by simp[V.under]) rfl ?_;simp[c36,qE,ldS];refine qe (qn4 s hs _) ?_;simp;exact qa rfl rfl rfl
theorem qe8{s:Sm}{y:Bz}{a:Ex}(h:sE s [y] [a]=0)(hl:s.frees.length+Sm.nb1 [s]+(suT [y] [(y,a)]).length≤899):
  (Pa.st (suO s [y] [(y,a)])).size+(s.whole zm).ct (fun t=>decide (y=t))=(Pa.st s).size+(s.whole zm).ct (fun t=>decide (y=t)) * (Pa.ex a).size:=by
 obtain ⟨h0,hp,ha,hf,ho⟩:=yA h;have va:=(qk h0).2;have he:=jR.one hp;have hA:=(qk ha).2;have hw:(suO s [y] [(y,a)]).whole zm=(s.whole zm).sb (lkL [(y,a)]):=qjJ va hl he.lk hA hf
 have h1:=Sm.sb_sz (lk:=lkL [(y,a)]) (g:=zm) (q:=fun t=>decide (y=t)) (A:=(Pa.ex a).size) (fun t z hz=>by
  simp only[lkL] at hz;split at hz
  ·cases hz;rfl
  ·cases hz) (fun t=>by
  simp only[lkL];by_cases h:y=t <;> simp[h]) s [qd s.labels 0] (qd s.labels 0).length va
 have h2:=Sm.whole_size (g:=zm) (suO s [y] [(y,a)]) (qk ho).2;rw[hw] at h2;rw[←h2];exact h1
theorem qni(n a b:Nat)(A B s t u:Int)(hA:1≤A)(hB:1≤B)(h1:t+n=s+n * A)(h2:u+n=s+n * B):(t - s) * (B - 1)=(u - s) * (A - 1)∧0≤t - s∧0≤u - s:=by
 have e1:t - s=n * (A - 1):=by rw[Int.mul_sub];omega
 have e2:u - s=n * (B - 1):=by rw[Int.mul_sub];omega
 rw[e1,e2];refine ⟨by rw[Int.mul_assoc,Int.mul_assoc,Int.mul_comm (A - 1)],Int.mul_nonneg (by omega) (by omega),Int.mul_nonneg (by omega) (by omega)⟩
open Classical in
theorem qo2(s:Sm)(y:Bz)(a b:Ex)(os:s.ok)(oa:a.ok)(ob:b.ok):Fn prog 9 [s.v,.str y,a.v,b.v] [] (.bool true):=by
 refine qv.ib func9 ok9 ?_;obtain ⟨S1,hS1⟩:∃S1:St,S1=[.arr [s.v] 8 1,.arr [a.v] 7 1,.arr [b.v] 7 1]:=⟨_,rfl⟩;have b0:S1[0]?=some (.arr [s.v] 8 1):=by rw[hS1];rfl
 have b1:S1[1]?=some (.arr [a.v] 7 1):=by rw[hS1];rfl
 have b2:S1[2]?=some (.arr [b.v] 7 1):=by rw[hS1];rfl
 have ld:∀{U:St},Kp (fun _=>False) S1 U→ldS U (.ptr 0 0 0 1) (some 8)=some s.v∧ldS U (.ptr 1 0 0 1) (some 7)=some a.v∧ldS U (.ptr 2 0 0 1) (some 7)=some b.v:=fun k=>by
  have c0:=k.at b0 id;have c1:=k.at b1 id;have c2:=k.at b2 id;simp[ldS,c0,c1,c2]
 obtain ⟨d0,d1,d2⟩:=ld (Kp.refl _ S1);simp[c9,qE];rw[←hS1];simp[d0];refine qe (qdz s os S1) ?_
 cases la:s.light with
 | false=>
  simp;refine qe (ze S1) ?_;simp;exact qa rfl rfl rfl
 | true=>
 have q26:Fn prog 26 [.sl true [a.v,b.v]] S1 (.bool (decide (0<Ex.leftL [a,b] 0 60))):=qv.weakA (by
  have:=qc4 [a,b] (by simp[B50]) ⟨oa,ob,trivial⟩ S1;simpa[V.weakL,V.weak,Ex.v_weak] using this)
 have f2:fits 7 [a.v,b.v]=true:=by simp[fits]
 have fs:fits 1 [V.str y]=true:=rfl;simp[d1,d2,f2];refine qe q26 ?_;by_cases hx:0<Ex.leftL [a,b] 0 60
 case neg=>
  simp[hx];refine qe (ze S1) ?_;simp;exact qa rfl rfl rfl
 have zs:=QV la;have ns:=qda la;have lf:=s.frees_len0
 have zab:(Pa.ex a).size+(Pa.ex b).size<60:=by
  have:=Ex.leftL_size [a,b] 0 60 hx;have h0:qA []=0:=rfl;rw[qqH,qqH,qrh,sizes_cons,sizes_cons,h0] at this;omega
 have oca:=Ex.occ_len a;have ocb:=Ex.occ_len b;have ta:(suT [y] [(y,a)]).length=1+a.occ.length:=by simp[suT];omega
 have tb:(suT [y] [(y,b)]).length=1+b.occ.length:=by simp[suT];omega
 have hla:s.frees.length+Sm.nb1 [s]+(suT [y] [(y,a)]).length≤899:=by omega
 have hlb:s.frees.length+Sm.nb1 [s]+(suT [y] [(y,b)]).length≤899:=by omega
 simp[hx,d0,d1,fs,Ex.fits1];refine qh (QI s os (by omega) y a S1 oa (by omega) hla) ?_;rintro r V1 ⟨rfl,k1⟩;have y1:=qeH s [y] [a];have k1:=k1.push [.arr [sV s [y] [a]] 8 1];obtain ⟨p0,p1,p2⟩:=ld k1;simp[qE,stZ y1,p0,p2,fs,Ex.fits1];obtain ⟨W1,hW1⟩:∃W,W=V1++[.arr [sV s [y] [a]] 8 1]:=⟨_,rfl⟩;have l1:∀{W},Kp (fun _=>False) W1 W→ldS W (.ptr V1.length 0 0 1) (some 8)=some (sV s [y] [a]):=fun k=>ldZ y1 (by rw[←hW1];exact k)
 rw[←hW1] at k1 ⊢;refine qh (QI s os (by omega) y b W1 ob (by omega) hlb) ?_;rintro r V2 ⟨rfl,k2⟩;have y2:=qeH s [y] [b];have j2:=k2.push [.arr [sV s [y] [b]] 8 1];have k2:=k1.trans j2;obtain ⟨p0,p1,p2⟩:=ld k2;simp[qE,stZ y2];obtain ⟨U4,hU4⟩:∃W,W=V2++[.arr [sV s [y] [b]] 8 1]:=⟨_,rfl⟩;have l2:∀{W},Kp (fun _=>False) U4 W→ldS W (.ptr V2.length 0 0 1) (some 8)=some (sV s [y] [b]):=fun k=>ldZ y2 (by rw[←hU4];exact k)
 rw[←hU4] at k2 j2 p0 p1 p2 ⊢;by_cases ea:sE s [y] [a]=0
 case neg=>
  simp[ea];refine qe (ze U4) ?_;simp;exact qa rfl rfl rfl
 by_cases eb:sE s [y] [b]=0
 case neg=>
  simp[ea,eb];refine qe (ze U4) ?_;simp;exact qa rfl rfl rfl
 have l1:=l1 j2;have l2:=l2 (Kp.refl _ _);have hv1:sV s [y] [a]=(suO s [y] [(y,a)]).v:=if_pos ea;have hv2:sV s [y] [b]=(suO s [y] [(y,b)]).v:=if_pos eb;obtain ⟨h0,hpa,haa,hfa,hoa⟩:=yA ea;obtain ⟨_,hpb,hab,hfb,hob⟩:=yA eb;have so:∀(x:Ex),x.ok→s.frees.length+Sm.nb1 [s]+(suT [y] [(y,x)]).length≤899→(suO s [y] [(y,x)]).ok:=fun x ox hl=>Sm.wholeR_ok (qcR (fun e he=>by simp at he;rw[he];exact ox)) _ (Sm.ap_ok2 s os (qk h0).2 hl)
 have t1:∀U,Fn prog 35 [sV s [y] [a]] U (.int .i64 (Pa.st (suO s [y] [(y,a)])).size):=fun U=>by
  have:=qg3 _ (so a oa hla) U;rw[hv1];simpa[JC,(qk hoa).1] using this
 have t2:∀U,Fn prog 35 [sV s [y] [b]] U (.int .i64 (Pa.st (suO s [y] [(y,b)])).size):=fun U=>by
  have:=qg3 _ (so b ob hlb) U;rw[hv2];simpa[JC,(qk hob).1] using this
 have t0:∀U,Fn prog 35 [s.v] U (.int .i64 (Pa.st s).size):=fun U=>by
  have:=qg3 s os U;simpa[JC,(qk h0).1] using this
 have ta:∀U,Fn prog 36 [a.v] U (.int .i64 (Pa.ex a).size):=fun U=>by
  have:=qjp a oa U;simpa[JC,(qk (ZT.1 hpa).2).1] using this
 have tb:∀U,Fn prog 36 [b.v] U (.int .i64 (Pa.ex b).size):=fun U=>by
  have:=qjp b ob U;simpa[JC,(qk (ZT.1 hpb).2).1] using this
 have e1:=qe8 ea hla;have e2:=qe8 eb hlb;have f1:=(qk hoa).1.1;have f2:=(qk hob).1.1;have pa1:1≤(Pa.ex a).size:=by cases a;rw[Ex.size_mk];omega
 have pb1:1≤(Pa.ex b).size:=by cases b;rw[Ex.size_mk];omega
 generalize (Pa.st (suO s [y] [(y,a)])).size=t at *;generalize (Pa.st (suO s [y] [(y,b)])).size=u at *;generalize (s.whole zm).ct (fun t=>decide (y=t))=n at *;obtain ⟨j1,j2,j3⟩:=qni n 0 0 (Pa.ex a).size (Pa.ex b).size (Pa.st s).size t u (by omega) (by omega) (by exact_mod_cast e1) (by exact_mod_cast e2);generalize (Pa.ex a).size=A at *;generalize (Pa.ex b).size=B at *;generalize (Pa.st s).size=z at *;have m1:((t:Int) - z) * ((B:Int) - 1)≤2000 * 60:=Int.mul_le_mul (by omega) (by omega) (by omega) (by omega);have m2:0≤((t:Int) - z) * ((B:Int) - 1):=Int.mul_nonneg (by omega) (by omega);have m3:((u:Int) - z) * ((A:Int) - 1)≤2000 * 60:=Int.mul_le_mul (by omega) (by omega) (by omega) (by omega);have m4:0≤((u:Int) - z) * ((A:Int) - 1):=Int.mul_nonneg (by omega) (by omega);have n2:z≤t:=by omega
 have n3:z≤u:=by omega
 simp[ea,eb,l1,p0];refine Qu (t1 U4) ?_;simp[p0];refine Qu (t0 U4) ?_;simp[l2,p0,ZX,Qc,QG,qn (n:=(t:Int) - z) (by omega) (by omega)];refine Qu (t2 U4) ?_;simp[p0];refine Qu (t0 U4) ?_;simp[p0,p1,ZX,Qc,QG,qn (n:=(u:Int) - z) (by omega) (by omega)];refine qe (ta U4) ?_;simp[p2,qn (n:=(A:Int) - 1) (by omega) (by omega)];refine qe (tb U4) ?_;simp[qn (n:=(B:Int) - 1) (by omega) (by omega)];refine qe (ze U4) ?_;simp[qn (n:=((t:Int) - z) * ((B:Int) - 1)) (by omega) (by omega),qn (n:=((u:Int) - z) * ((A:Int) - 1)) (by omega) (by omega),j1,n2,n3];exact qa rfl rfl rfl
end Go.Proofs.YtbifpocccfkhhaaGreatDoor
namespace Go.Proofs.YtbifpocccfkhhaaGreatDoor.copySizes
open Go Go.ChangeShapes Go.WideShapes Go.ChangeAt Go.RowKit
set_option maxRecDepth 100000
theorem own:ownKnob Tryz.prog.godebug=none:=by kernel_rfl
theorem contract(H:Type)(enc:TypeId×Value→H)(W:World)(base:Nat)(args:Array Value)(ds gs:List (DataW H))(before:List MemPlace)
  (hval:∀(j:Nat) t v,Tryz.f9.params[j]?=some t→args[j]?=some v→Value.okWide Tryz.prog W .any base t v)
  (hW:DataW.Whole enc Tryz.prog Tryz.f9.params.toList Rows.copySizesSpec.vars false W args.toList ds gs before)
  (hwt:(DataW.weightsEach Tryz.prog (Tryz.f9.params.toList++(OpenSpec.ofChange Rows.copySizesSpec).bare.plain.varTypes Tryz.prog) (ds++gs)).all (·≤reachBytes)=true) (hL:laidMetH Tryz.prog Rows.copySizesRow.laid W):
  Calls Tryz.prog 9 args W fun e W'=>∃v,e=.returned v∧Rows.copySizesSpec.post enc Tryz.prog Tryz.f9 false true false false W args v W':=by
 have hW':=hW;obtain ⟨p,q,hA0,hV,rfl,hfz,hnd⟩:=hW;have hA:DataW.TrodAll enc Tryz.prog W 0 (fun _=>true) true Tryz.f9.params.toList args.toList ds p:=hA0;rw[Tryz.params9] at hA hval hwt;obtain ⟨v0,vs0,d0,ds0,p0,q0,hv0,hd0,h0,hA0⟩:=trodAll_cons hA;obtain ⟨v1,vs1,d1,ds1,p1,q1,hv1,hd1,h1,hA1⟩:=trodAll_cons hA0;obtain ⟨v2,vs2,d2,ds2,p2,q2,hv2,hd2,h2,hA2⟩:=trodAll_cons hA1;obtain ⟨v3,vs3,d3,ds3,p3,q3,hv3,hd3,h3,hA3⟩:=trodAll_cons hA2;obtain ⟨hve,hde⟩:=trodAll_nil hA3;have hds:ds=[d0,d1,d2,d3]:=by rw[hd0,hd1,hd2,hd3,hde]
 have hargs:args=#[v0,v1,v2,v3]:=by
  apply qr4.1;rw[hv0,hv1,hv2,hv3,hve]
 subst hds hargs;obtain ⟨rfl,rfl⟩:=trodVars_none hV;rw[qrC] at hwt;obtain ⟨a0,o0,r0⟩:=stmt_in (hval 0 28 v0 rfl rfl) h0 (fitw_of hwt (i:=0) rfl rfl);obtain ⟨a1,o1,r1⟩:=text_in (hval 1 9 v1 rfl rfl) h1 (fitw_of hwt (i:=1) rfl rfl);obtain ⟨a2,o2,r2⟩:=exp_in (hval 2 54 v2 rfl rfl) h2 (fitw_of hwt (i:=2) rfl rfl);obtain ⟨a3,o3,r3⟩:=exp_in (hval 3 54 v3 rfl rfl) h3 (fitw_of hwt (i:=3) rfl rfl);refine law_of (qo2 a0 a1 a2 a3 o0 o2 o3) (SR.start hL) ⟨rfl,fun i v u hv hu=>?_⟩ (by kernel_rfl) rfl rfl hW' rfl
 match i,hv,hu with
 | 0,hv,hu=>cases hv;cases hu;exact r0
 | 1,hv,hu=>cases hv;cases hu;exact r1
 | 2,hv,hu=>cases hv;cases hu;exact r2
 | 3,hv,hu=>cases hv;cases hu;exact r3
noncomputable def laidWorld(os:Os):World:=
 let N:=(World.settled Tryz.prog os).heap.size
 let w0:=World.holding Tryz.prog os ⟨#[.cells (#[9,13,1,32,133,101,160,5760,5600,8192,8202,1,8232,8233,1,8239,8287,48,12288,12288,1].map fun (z:Nat)=>Value.int .u16 (z:Int)) 279,.cells #[.slice (some ⟨N,0,none⟩) 7 7,.slice none 0 0,.int .i64 2] 276],#[],[]⟩
 let put (h:Array Obj) (g:Nat) (cs:Array Value):Array Obj:=h.modify g fun
  | .cells _ t frozen=>.cells cs t frozen
  | o=>o
 let h1:=put w0.heap 0 (Lib.asciiSpaceTab.map fun z=>Value.int .u8 z).toArray
 let h2:=put h1 1 #[.pointer (some ⟨N+1,0,none⟩)]
 let h3:=put h2 2 (Lib.pow10Tab.map fun z=>Value.int .u64 z).toArray
 let h4:=put h3 3 (#[0,1,28,2,29,14,24,3,30,22,20,15,25,17,4,8,31,27,13,23,21,19,16,7,26,12,18,6,11,5,10,9].map fun (z:Nat)=>Value.int .u8 (z:Int))
 let h5:=put h4 4 (#[0,1,56,2,57,49,28,3,61,58,42,50,38,29,17,4,62,47,59,36,45,43,51,22,53,39,33,30,24,18,12,5,63,55,48,27,60,41,37,16,46,35,44,21,52,32,23,11,54,26,40,15,34,20,31,10,25,14,19,9,13,8,7,6].map fun (z:Nat)=>Value.int .u8 (z:Int))
 { w0 with heap:=h5 }
def wArgs:Array Value:=#[.agg #[.slice none 0 0,.int .i64 0,.string ⟨#[]⟩,.slice none 0 0,.slice none 0 0,.slice none 0 0,.slice none 0 0,.slice none 0 0],.string ⟨#[]⟩,.agg #[.int .i64 0,.int .i64 0,.int .i64 0,.int .i64 0,.int .i64 0,.string ⟨#[]⟩,.slice none 0 0],.agg #[.int .i64 0,.int .i64 0,.int .i64 0,.int .i64 0,.int .i64 0,.string ⟨#[]⟩,.slice none 0 0]]
theorem laid_met(os:Os):laidMet Tryz.prog Rows.copySizesRow.laid ((laidWorld os).forCall (fun _ _=>0) ⟨#[],wArgs,[]⟩).memory:=
 laidMet_of_run' 10 (by kernel_rfl) (by kernel_rfl)
theorem reads(os:Os){H:Type}(enc:TypeId×Value→H):∃places,DataW.whole enc Tryz.prog ((laidWorld os).forCall (fun _ _=>0) ⟨#[],wArgs,[]⟩).memory Tryz.f9.params.toList Rows.copySizesSpec.vars false wArgs.toList 8=some ([.agg [.nil,.lit (.int .i64 0),.lit (.string []),.nil,.nil,.nil,.nil,.nil],.lit (.string []),.agg [.lit (.int .i64 0),.lit (.int .i64 0),.lit (.int .i64 0),.agg [.lit (.int .i64 0),.lit (.int .i64 0)],.lit (.string []),.nil],.agg [.lit (.int .i64 0),.lit (.int .i64 0),.lit (.int .i64 0),.agg [.lit (.int .i64 0),.lit (.int .i64 0)],.lit (.string []),.nil]],[],places):=
 ⟨[],by kernel_rfl⟩
theorem lifted(os:Os)(started:os.Started)(H:Type)(enc:TypeId×Value→H)(F:Stop.Interp):
  ReturnsInHanded {} Tryz.checked os 9 .any ((OpenSpec.ofChange Rows.copySizesSpec).preRow enc Tryz.prog Tryz.f9 Rows.copySizesRow.domain false Rows.copySizesRow.laid) (((OpenSpec.ofChange Rows.copySizesSpec).at F).post enc Tryz.prog Tryz.f9 false true false false):=by
 obtain ⟨places,hx⟩:=reads os enc;refine returnsInHanded_of_row (C:=Tryz.checked) (s:=OpenSpec.ofChange Rows.copySizesSpec) own started (by kernel_rfl) Tryz.func9
  (witness_row_atRef (enc:=enc) (C:=Tryz.checked) false (laidWorld os) wArgs rfl (by kernel_rfl) (by kernel_rfl) (by kernel_rfl)
   (OpenSpec.preRow_of_cond 8 hx (by kernel_rfl) (fun k hk=>by cases hk) (by kernel_rfl) (laid_met os))) ?_
 intro W base args ds gs before hval hW _ _ hwt hL _ _;exact contract H enc W base args ds gs before hval hW hwt hL
theorem andT{a b:Bool}(ha:a=true)(hb:b=true):(a && b)=true:=by rw[ha,hb];rfl
theorem fact1:Rows.copySizesRow.wf (OpenSpec.ofChange (OpenSpec.ofChange Rows.copySizesSpec).bare)=true:=by kernel_rfl
theorem fact2:laidOutB Tryz.prog=true:=by kernel_rfl
theorem fact3:mapsRowed Tryz.prog=true:=by kernel_rfl
theorem fact4:Tryz.f9.params.all (Tryz.prog.readableRec ·)=true:=by kernel_rfl
theorem fact5:namedTie Tryz.prog Rows.copySizesRow.named (OpenSpec.ofChange Rows.copySizesSpec).bare.vars=true:=by kernel_rfl
theorem fact6:(Rows.copySizesRow.stops==[])=true:=by kernel_rfl
theorem fact7:(Tryz.prog.stops==[])=true:=by kernel_rfl
theorem fact8:(Rows.copySizesRow.knobs==[])=true:=by kernel_rfl
theorem fact9:(Tryz.prog.stopKnobs==[])=true:=by kernel_rfl
theorem fact10:(Rows.copySizesRow.inPlace==Tryz.prog.inPlace 9)=true:=by kernel_rfl
theorem fact11:(Rows.copySizesRow.unfollowed==Tryz.prog.unfollowed 9)=true:=by kernel_rfl
theorem fact12:(Rows.copySizesRow.recurses==Tryz.prog.recurses 9)=true:=by kernel_rfl
theorem fact13:(Rows.copySizesRow.named==Tryz.prog.varsNamed 9)=true:=by kernel_rfl
theorem fact14:(Rows.copySizesRow.maps==(Tryz.f9.params.toList++(OpenSpec.ofChange Rows.copySizesSpec).bare.plain.varTypes Tryz.prog).any (Tryz.prog.mapsRec ·))=true:=by kernel_rfl
theorem fact15:(Rows.copySizesRow.ifaces==(Tryz.f9.params.toList++(OpenSpec.ofChange Rows.copySizesSpec).bare.plain.varTypes Tryz.prog).any (Tryz.prog.ifacesRec ·))=true:=by kernel_rfl
theorem fact16:(Rows.copySizesRow.mapsOut==Tryz.prog.mapsAmong Tryz.f9.resultTypes.toList)=true:=by kernel_rfl
theorem fact17:(Rows.copySizesRow.loops==(Tryz.f9.params.toList++(OpenSpec.ofChange Rows.copySizesSpec).bare.plain.varTypes Tryz.prog).any (Tryz.prog.loopsFrom ·))=true:=by kernel_rfl
theorem fact18:(Rows.copySizesRow.wideKeys==((Tryz.f9.params.toList++(OpenSpec.ofChange Rows.copySizesSpec).bare.plain.varTypes Tryz.prog)++Tryz.f9.resultTypes.toList).any (Tryz.prog.wideKeysFrom ·))=true:=by kernel_rfl
theorem fact19:(OpenSpec.ofChange Rows.copySizesSpec).bare.vars.all (Tryz.prog.varReadable ·)=true:=by kernel_rfl
theorem fact20:Tryz.f9.resultTypes.all (fun t=>Tryz.prog.readableRec t && decide (t<Tryz.prog.types.size))=true:=by kernel_rfl
theorem fact21:(Rows.copySizesRow.ifacesOut==Tryz.f9.resultTypes.toList.any (Tryz.prog.ifacesRec ·))=true:=by kernel_rfl
theorem fact22:(Rows.copySizesRow.loopsOut==Tryz.f9.resultTypes.toList.any (Tryz.prog.loopsFrom ·))=true:=by kernel_rfl
theorem fact23:(Rows.copySizesRow.plainKeys==Tryz.prog.plainKeys)=true:=by kernel_rfl
theorem fact24:Rows.copySizesRow.shortTexts.isNone=true:=by kernel_rfl
theorem fact25:Tryz.prog.stopsHeard=true:=by kernel_rfl
theorem fact26:Tryz.prog.mayEnter=true:=by kernel_rfl
theorem fact27:(Rows.copySizesRow.lifted==Tryz.prog.liftsFinal)=true:=by kernel_rfl
theorem fact28:(Tryz.prog.make==some Rows.copySizesRow.make)=true:=by kernel_rfl
theorem fact29:(Rows.copySizesRow.kinds==(if Rows.copySizesRow.domain.isEmpty then [] else Tryz.f9.params.toList.map fun t=>match Tryz.prog.underlying t with|some (.int k)=>some k|_=>none))=true:=by kernel_rfl
theorem fact30:(Rows.copySizesRow.pinned==Rows.copySizesRow.pinnedBy)=true:=by kernel_rfl
theorem fact31:(Rows.copySizesRow.veiled==((Tryz.f9.params.toList++(OpenSpec.ofChange Rows.copySizesSpec).bare.plain.varTypes Tryz.prog)++Tryz.f9.resultTypes.toList).any (Tryz.prog.veiledRec ·))=true:=by kernel_rfl
theorem fact32:Rows.copySizesRow.veiledFits Tryz.prog Tryz.f9.params.toList ((Tryz.f9.params.toList++(OpenSpec.ofChange Rows.copySizesSpec).bare.plain.varTypes Tryz.prog)++Tryz.f9.resultTypes.toList)=true:=by kernel_rfl
theorem facts:joinedFacts Tryz.pinned.checked.prog 9 Tryz.f9 (OpenSpec.ofChange Rows.copySizesSpec).bare Rows.copySizesRow=true:=(andT (andT (andT (andT (andT (andT (andT (andT (andT (andT (andT (andT (andT (andT (andT (andT (andT (andT (andT (andT (andT (andT (andT (andT (andT (andT (andT (andT (andT (andT (andT fact1 fact2) fact3) fact4) fact5) fact6) fact7) fact8) fact9) fact10) fact11) fact12) fact13) fact14) fact15) fact16) fact17) fact18) fact19) fact20) fact21) fact22) fact23) fact24) fact25) fact26) fact27) fact28) fact29) fact30) fact31) fact32)
theorem name9:Tryz.pinned.checked.prog.funcNamed Rows.copySizesRow.func=some 9:=by kernel_rfl
theorem inst9:Tryz.f9.isInstance Tryz.pinned.checked.prog Rows.copySizesRow.origin Rows.copySizesRow.targs:=of_decide_eq_true (by kernel_rfl)
theorem wrap9:Tryz.f9.isWrapper Tryz.pinned.checked.prog Rows.copySizesRow.wrapper Rows.copySizesRow.mainSum:=by unfold Func.isWrapper;first|(rw[if_pos (by decide+kernel)];kernel_rfl)|(rw[if_neg (by decide+kernel)];exact ⟨rfl,rfl⟩)
theorem said:Rows.CopySizesSaid:=
 OpenClaim.holds_of_cond 9 Tryz.f9 rfl rfl rfl rfl rfl rfl rfl ⟨rfl,rfl,rfl,rfl,rfl⟩ rfl rfl rfl rfl rfl name9 Tryz.func9 facts inst9 wrap9
  (fun os started H enc _ F=>by rw[OpenClaim.pre_eq_preRow];exact lifted os started H enc F)
theorem looksT:false=Tryz.pinned.checked.prog.looks []:=by kernel_rfl
theorem stand9:Tryz.prog.wantsStandIn 9=false:=by kernel_rfl
theorem stand28:Tryz.prog.wantsStandIn 28=false:=by kernel_rfl
theorem stand54:Tryz.prog.wantsStandIn 54=false:=by kernel_rfl
theorem named9 : Tryz.prog.funcNamed "manorboy/manorboylaw09.CopySizes" = some 9 := by kernel_rfl
theorem plain (f : FuncId) (fn : Func) (hf : Tryz.pinned.checked.prog.funcNamed "manorboy/manorboylaw09.CopySizes" = some f) (hfn : Tryz.pinned.checked.prog.funcs[f]? = some fn) :
  false=Tryz.pinned.checked.prog.looks []∧∀(j:Nat) t,fn.params[j]?=some t→Tryz.pinned.checked.prog.wantsStandIn t=false:=by
 obtain rfl:f=9:=Option.some.inj (named9.symm.trans hf) |>.symm;obtain rfl:fn=Tryz.f9:=(Option.some.inj (Tryz.func9.symm.trans hfn)).symm;refine ⟨looksT,fun j t ht=>?_⟩;rw[Tryz.params9] at ht;have:=Array.mem_of_getElem? ht;simp at this;rcases this with rfl|rfl|rfl
 ·exact stand9
 ·exact stand28
 ·exact stand54
theorem wfText:Rows.copySizesRow.wfByText (OpenSpec.ofChange Rows.copySizesSpec)=true:=by kernel_rfl
theorem mainT:Tryz.pinned.checked.prog.mainIs=some (Rows.copySizesCard.stood.harness.1,Rows.copySizesCard.stood.harness.2.toList):=by kernel_rfl
theorem goesT:false=Rows.copySizesRow.goesBy Tryz.pinned.checked.prog:=by kernel_rfl
theorem card:Rows.CopySizesCardSaid:=
 Claim7.holds_tied_plain_at .later [] _ _ _ _ said (fun _ h=>by cases h) wfText (fun _ h=>by cases h) copySizes_row_tie rfl ⟨rfl,rfl⟩ mainT rfl plain goesT
end Go.Proofs.YtbifpocccfkhhaaGreatDoor.copySizes
namespace Go.Proofs.YtbifpocccfkhhaaGreatDoor
theorem copySizes_holds:Rows.CopySizesCardSaid:=copySizes.card
end Go.Proofs.YtbifpocccfkhhaaGreatDoor

end
