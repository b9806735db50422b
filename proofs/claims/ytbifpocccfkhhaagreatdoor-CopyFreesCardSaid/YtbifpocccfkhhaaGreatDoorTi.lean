/- A part. -/
import Derived.Test.YtbifpocccfkhhaaGreatDoorTh
set_option linter.all false
noncomputable section
namespace Go.Proofs.YtbifpocccfkhhaaGreatDoor
open Go Go.Proofs.Tryz
theorem qjV(f:Fo):∀S,Fn prog 250 [f.v] S (.bool (f.vOwn qb)):=by
 refine Pu.ib func250 ok250 (by simp[c250]) (by simp[V.under]) rfl ?_;simp[c250,qM,ldS];refine qg (jf f.name _) ?_
 cases hn:qb f.name with
 | false=>
  simp;exact qa rfl (by simp[qp,Fo.vOwn,hn]) rfl
 | true=>
  have hv:f.vOwn qb=(if f.spec=0∨f.spec=3∨f.spec=4∨f.spec=5 then decide (f.type=0) && !f.value
   else if f.spec=1 then decide (1≤f.type∧f.type≤3)
   else if f.spec=2 then decide (0≤f.type∧f.type≤3) && (!f.value || decide (f.type≠0))
   else if f.spec=6 then decide (0≤f.type∧f.type≤3) && !f.value
   else false):=by unfold Fo.vOwn;rw[hn];rfl
  rw[hv];by_cases h0:f.spec=0
  ·by_cases ht:f.type=0
   ·simp[ldS,h0,ht];exact qa rfl rfl rfl
   ·simp[ldS,h0,ht];exact qa rfl rfl rfl
  by_cases h3:f.spec=3
  ·by_cases ht:f.type=0
   ·simp[ldS,h3,ht];exact qa rfl rfl rfl
   ·simp[ldS,h3,ht];exact qa rfl rfl rfl
  by_cases h4:f.spec=4
  ·by_cases ht:f.type=0
   ·simp[ldS,h4,ht];exact qa rfl rfl rfl
   ·simp[ldS,h4,ht];exact qa rfl rfl rfl
  by_cases h5:f.spec=5
  ·by_cases ht:f.type=0
   ·simp[ldS,h5,ht];exact qa rfl rfl rfl
   ·simp[ldS,h5,ht];exact qa rfl rfl rfl
  by_cases h1:f.spec=1
  ·simp[ldS,h1];refine qg (qB _ _ _ _) ?_;simp;exact qa rfl rfl rfl
  by_cases h2:f.spec=2
  ·simp[ldS,h2];refine qg (qB _ _ _ _) ?_
   cases hr:decide (0≤f.type) && decide (f.type≤3) with
   | false=>
    simp;exact qa rfl rfl rfl
   | true=>
    cases hval:f.value with
    | false=>
     simp[ldS,hval];exact qa rfl rfl rfl
    | true=>
     simp[ldS,hval];exact qa rfl rfl rfl
  by_cases h6:f.spec=6
  ·simp[ldS,h6];refine qg (qB _ _ _ _) ?_
   cases hr:decide (0≤f.type) && decide (f.type≤3) with
   | false=>
    simp;exact qa rfl rfl rfl
   | true=>
    simp[ldS];exact qa rfl rfl rfl
  simp[ldS,h0,h1,h2,h3,h4,h5,h6];exact qa rfl rfl rfl
theorem qiM(f g:Fo)(L:Nat)(S:St)(h:S[L]?=some (.arr [f.v] 4 1)):qt prog 251 [g.v,.ptr L 0 0 1] S (fun v U=>v=.bool (decide (g.name=f.name))∧Kp no S U):=by
 refine qt.ib func251 ok251 ?_;simp[c251,qM,ldS,gp h];exact qf rfl ⟨rfl,(Kp.refl _ _).push _⟩
theorem Zf(nm:Bz→Bool):∀(l m:List Fo) (had:List Bz),Qb nm (l++m) had=(Qb nm l had && Qb nm m (had++l.map Fo.name))
 | [],m,had=>by simp[Qb]
 | f::l,m,had=>by
  simp only[qpO,Qb,Zf nm l m,qpv,qpB,List.singleton_append,qqF,qpO,Bool.and_assoc]
theorem qn7{l:List V}{k:Nat}(hk:k≤l.length){sz:Nat}(hs:∀x,x∈l→x.size=sz)(S:St):zq S sz (.sl false l) none (some (k:Int))=some (.sl false (l.take k)):=by
 simp[zq,hk];exact hs
def prB(l:List UInt8):Bool:=l.all jA
theorem YA(l:List Fo)(hl:l.length≤B50):∀S,Fn prog 214 [.sl false (l.map Fo.v)] S (.bool (Qb qb l [])):=by
 refine Pu.ib func214 ok214 (by simp[c214]) (by simp[V.under]) rfl ?_;unfold B50 at hl;simp only[c214,C'.k];simp;refine qw (fun j e S'=>∃i:Nat,j=l.length - i∧i≤l.length∧Qb qb (l.take i) []=true∧
  e=[(7,.int .i64 i),(6,.int .i64 l.length),(5,.sl false (l.map Fo.v)),(0,.sl false (l.map Fo.v))]) l.length _ ?_ ⟨0,by simp,by omega,rfl,rfl⟩ ?_
 ·exact Env.so (by simp)
 rintro j e S' ⟨i,rfl,hi,hq,rfl⟩;by_cases h:i<l.length
 ·have hnext:Qb qb (l.take (i+1)) []=(l[i].vOwn qb && !((l.take i).map Fo.name).any fun x=>decide (x=l[i].name)):=by
   rw[qpI,qpn h,qqd,Zf,hq];simp[Qb]
  have hall:Qb qb l []=true→Qb qb (l.take (i+1)) []=true:=fun hh=>by
   rw[←qqy (i+1) l,Zf,qpy] at hh;exact hh.1
  simp[h,qmD,qM,stS,zN,ldS];refine qg (qjV l[i] _) ?_
  cases hv:l[i].vOwn qb with
  | false=>
   simp;refine qa rfl ?_ rfl;simp only[qp,V.bool.injEq]
   cases hh:Qb qb l [] with
   | false=>rfl
   | true=>rw[hall hh,hv] at hnext;simp at hnext
  | true=>
   rw[hv] at hnext;have hs:=qn7 (l:=l.map Fo.v) (k:=i) (by simp;omega) (sz:=4) (fun x hx=>by obtain ⟨y,_,rfl⟩:=qpE.1 hx;rfl) (S'++[Ob.arr [l[i].v] 4 1]);simp[QW,hs];rw[←List.map_take];refine qj (qkg false (l.take i) (by rw[qqA];unfold B50;omega) 251 [.ptr S'.length 0 0 1] (fun g=>decide (g.name=l[i].name)) _ fun x _ U hk=>qiM l[i] x S'.length U (hk.at (by simp) (fun h=>h))) ?_;rintro v U ⟨rfl,hk⟩
   have he:Jn (l.take i) (fun g=>decide (g.name=l[i].name))=((l.take i).map Fo.name).any fun x=>decide (x=l[i].name):=by
    unfold Jn;rw[List.any_map];rfl
   rw[he]
   cases hc:((l.take i).map Fo.name).any fun x=>decide (x=l[i].name) with
   | true=>
    rw[hc] at hnext;simp;refine qa rfl ?_ rfl;simp only[qp,V.bool.injEq]
    cases hh:Qb qb l [] with
    | false=>rfl
    | true=>rw[hall hh] at hnext;simp at hnext
   | false=>
    rw[hc] at hnext;simp[ze (n:=(i:Int)+1)];refine ⟨_,?_,_,?_,i+1,rfl,by omega,by rw[hnext];rfl,rfl⟩
    ·omega
    ·exact Env.so (by simp)
 ·simp[h];refine qa rfl ?_ rfl;rw[qp8 (by omega)] at hq;simp only[qp,hq]
theorem qjZ(s:Bz)(hs:s.size≤B50):∀S,Fn prog 211 [.str s] S (.bool (YU s)):=by
 refine Pu.ib func211 ok211 (by simp[c211]) (by simp[V.under]) rfl ?_;unfold B50 at hs;have hp:YU s=(prB s.data.toList && decide (s.size≤80)):=rfl;generalize hpr:YU s=pr at hp ⊢;simp only[c211,C'.k];simp;refine qw (fun j e S'=>∃i:Nat,j=s.size - i∧i≤s.size∧prB (s.data.toList.take i)=true∧
  e=[(3,.int .i64 i),(0,.str s)]) s.size _ ?_ ⟨0,by simp,by omega,rfl,rfl⟩ ?_
 ·exact Env.so (by simp)
 rintro j e S' ⟨i,rfl,hi,hq,rfl⟩;by_cases h:i<s.size
 ·have hb:s.data.toList[i]?=some (s.data[i]'h):=by simp[h]
  generalize hx:s.data[i]'h=x at hb;have hi':qgF s i=some (.int .u8 x.toNat):=by rw[←hx];exact qoX h
  have hlt:=x.toNat_lt
  have hno:jA x=false→pr=false:=fun hh=>by
   rw[hp,Bool.and_eq_false_iff];left
   cases ha:prB s.data.toList with
   | false=>rfl
   | true=>
    unfold prB at ha;rw[qpG] at ha;rw[ha x (qpp hb)] at hh;cases hh
  simp[h,hi',qz (n:=(x.toNat:Int)) (by omega) (by omega)];refine qg (qB _ _ _ _) ?_;by_cases h1:(32:Int)≤x.toNat∧(x.toNat:Int)≤126
  ·rw[show (decide ((32:Int)≤x.toNat) && decide ((x.toNat:Int)≤126))=true by simp[h1]];by_cases h2:(x.toNat:Int)=34
   ·simp[hi',h2];refine qa rfl ?_ rfl;rw[hno (by unfold jA;simp;omega)];rfl
   ·simp[hi',h2,ze (n:=(i:Int)+1)];refine ⟨_,?_,_,?_,i+1,rfl,by omega,?_,rfl⟩
    ·omega
    ·exact Env.so (by simp)
    ·unfold prB at *;rw[qpI,List.all_append,hq,hb];simp[jA];omega
  ·rw[show (decide ((32:Int)≤x.toNat) && decide ((x.toNat:Int)≤126))=false by simp;omega];simp;refine qa rfl ?_ rfl;rw[hno (by unfold jA;simp;omega)];rfl
 ·simp[h];have hsz:s.data.toList.length=s.size:=rfl;rw[qp8 (by omega)] at hq;refine qa rfl ?_ rfl;rw[hp,hq];simp only[qp,V.bool.injEq,qq8,decide_eq_decide];omega
theorem qkY(e:El):∀S,Fn prog 181 [e.v] S (.bool e.vOwn):=by
 refine Pu.ib func181 ok181 (by simp[c181]) (by simp[V.under]) rfl ?_;unfold El.vOwn;by_cases h1:e.kind=1
 ·simp[c181,qM,ldS,h1];exact qa rfl (by simp[qp];omega) rfl
 by_cases h2:e.kind=2
 ·simp[c181,qM,ldS,h2];exact qa rfl (by simp[qp];omega) rfl
 by_cases h3:e.kind=3
 ·simp[c181,qM,ldS,h3];exact qa rfl (by simp[qp];omega) rfl
 simp[c181,qM,ldS,h1,h2,h3];exact qa rfl rfl rfl
section
attribute [local simp] qM ldS stS qi qc1 qet zu Qi qY qF evX zj
theorem Ex.vOwn_eq(nm:Bz→Bool)(x:Ex):x.vOwn nm=(
 if x.kind=1 then decide (0≤x.n∧x.n≤2147483647) && decide (x.args.length=0) && decide (x.op=0) && (decide (x.man=0) && decide (x.exp=0)) && zk x.text
 else if x.kind=2 then qjq x.man x.exp && decide (0≤x.man) && decide (x.args.length=0) && decide (x.op=0) && decide (x.n=0) && zk x.text
 else if x.kind=3∨x.kind=4 then decide (x.args.length=0) && decide (x.op=0) && decide (x.n=0) && (decide (x.man=0) && decide (x.exp=0)) && zk x.text
 else if x.kind=5 then YU x.text && decide (x.args.length=0) && decide (x.op=0) && decide (x.n=0) && (decide (x.man=0) && decide (x.exp=0))
 else if x.kind=6 then nm x.text && decide (x.args.length=0) && decide (x.op=0) && decide (x.n=0) && (decide (x.man=0) && decide (x.exp=0))
 else if x.kind=7 then nm x.text && decide (1≤x.args.length∧x.args.length≤4) && decide (x.op=0) && decide (x.n=0) && (decide (x.man=0) && decide (x.exp=0))
 else if x.kind=8 then nm x.text && decide (1≤x.args.length∧x.args.length≤8) && decide (x.op=0) && decide (x.n=0) && (decide (x.man=0) && decide (x.exp=0))
 else if x.kind=9 then decide (x.op=1∨x.op=2) && decide (x.args.length=1) && decide (x.n=0) && (decide (x.man=0) && decide (x.exp=0)) && zk x.text
 else if x.kind=10 then decide (3≤x.op∧x.op≤18) && decide (x.args.length=2) && decide (x.n=0) && (decide (x.man=0) && decide (x.exp=0)) && zk x.text
 else if x.kind=11 then decide (x.args.length=3) && decide (x.op=0) && decide (x.n=0) && (decide (x.man=0) && decide (x.exp=0)) && zk x.text
 else false):=by cases x;rfl
theorem qK{t:Bz}(h:t=⟨⟨[]⟩⟩):zk t=true:=by subst h;rfl
theorem qD{t:Bz}(h:¬ t=⟨⟨[]⟩⟩):zk t=false:=decide_eq_false fun hh=>h (jg.2 hh)
theorem qe0(x:Ex)(hx:x.ok)(h1:x.kind=1):∀S,Fn prog 180 [x.v] S (.bool (x.vOwn qb)):=by
 refine Pu.ib func180 ok180 (by simp[c180]) (by simp[V.under]) rfl ?_;have hv:=Ex.vOwn_eq qb x;generalize x.vOwn qb=r at hv ⊢
 ·simp only[h1] at hv;simp at hv;simp[c180,qM,ldS,h1];refine qg (yP _ _) ?_;simp[arL,arH,ldS,h1];refine qg (qB _ _ _ _) ?_;simp[ldS];refine qg (qB _ _ _ _) ?_;by_cases hl:0≤x.args.length∧x.args.length≤0
  case neg=>
   rw[qQ (a:=(x.args.length:Int)) (lo:=0) (hi:=0) (by omega)];simp;refine qa rfl ?_ rfl;rw[hv];simp only[qp,V.bool.injEq,qqR];have:¬ x.args=[]:=fun hh=>hl (by rw[hh];simp)
   simp[this]
  rw[qU (a:=(x.args.length:Int)) (lo:=0) (hi:=0) (by omega)];have hl':x.args=[]:=qpP (by omega);simp[h1];refine qg (qB _ _ _ _) ?_;by_cases hb:0≤x.n∧x.n≤2147483647
  case neg=>
   rw[qQ (by omega)];simp;exact qa rfl (by rw[hv];simp[qp,hl',hb]) rfl
  rw[qU (by omega)];simp;by_cases ho:x.op=0
  case neg=>
   simp[ho];exact qa rfl (by rw[hv];simp[qp,hl',hb,ho]) rfl
  simp[ho];by_cases hr:x.man=0∧x.exp=0
  case neg=>
   rcases qpS.1 hr with hr1|hr1
   ·simp[hr1];exact qa rfl (by rw[hv];simp[qp,hl',hr1,hb,ho,true_and]) rfl
   ·simp[hr1];exact qa rfl (by rw[hv];simp[qp,hl',hr1,hb,ho,true_and]) rfl
  simp[hr];by_cases ht:x.text=⟨⟨[]⟩⟩
  case neg=>
   simp[ht];exact qa rfl (by rw[hv];simp[qp,hl',hb,ho,hr,qD ht]) rfl
  simp[ht];rw[ht] at hv;exact qa rfl (by rw[hv];simp[qp,hl',hb,ho,hr,qK rfl]) rfl
theorem qez(x:Ex)(hx:x.ok)(h2:x.kind=2):∀S,Fn prog 180 [x.v] S (.bool (x.vOwn qb)):=by
 refine Pu.ib func180 ok180 (by simp[c180]) (by simp[V.under]) rfl ?_;have hv:=Ex.vOwn_eq qb x;generalize x.vOwn qb=r at hv ⊢
 ·simp only[h2] at hv;simp at hv;simp[c180,qM,ldS,h2];refine qg (yP _ _) ?_;simp[arL,arH,ldS,h2];refine qg (qB _ _ _ _) ?_;simp[ldS];refine qg (qB _ _ _ _) ?_;by_cases hl:0≤x.args.length∧x.args.length≤0
  case neg=>
   rw[qQ (a:=(x.args.length:Int)) (lo:=0) (hi:=0) (by omega)];simp;refine qa rfl ?_ rfl;rw[hv];simp only[qp,V.bool.injEq,qqR];have:¬ x.args=[]:=fun hh=>hl (by rw[hh];simp)
   simp[this]
  rw[qU (a:=(x.args.length:Int)) (lo:=0) (hi:=0) (by omega)];have hl':x.args=[]:=qpP (by omega);simp[h2];refine qg (qlb _ _ _) ?_;cases hb:qjq x.man x.exp
  case false=>
   simp;exact qa rfl (by rw[hv];simp[qp,hl',hb]) rfl
  simp;by_cases hm:0≤x.man
  case neg=>
   simp[hm];exact qa rfl (by rw[hv];simp[qp,hl',hb,hm]) rfl
  simp[hm];by_cases ho:x.op=0
  case neg=>
   simp[ho];exact qa rfl (by rw[hv];simp[qp,hl',hb,hm,ho]) rfl
  simp[ho];by_cases hn:x.n=0
  case neg=>
   simp[hn];exact qa rfl (by rw[hv];simp[qp,hl',hb,hm,ho,hn]) rfl
  simp[hn];by_cases ht:x.text=⟨⟨[]⟩⟩
  case neg=>
   simp[ht];exact qa rfl (by rw[hv];simp[qp,hl',hb,hm,ho,hn,qD ht]) rfl
  simp[ht];rw[ht] at hv;exact qa rfl (by rw[hv];simp[qp,hl',hb,hm,ho,hn,qK rfl]) rfl
theorem qfG(x:Ex)(hx:x.ok)(h3:x.kind=3):∀S,Fn prog 180 [x.v] S (.bool (x.vOwn qb)):=by
 refine Pu.ib func180 ok180 (by simp[c180]) (by simp[V.under]) rfl ?_;have hv:=Ex.vOwn_eq qb x;generalize x.vOwn qb=r at hv ⊢
 ·simp only[h3] at hv;simp at hv;simp[c180,qM,ldS,h3];refine qg (yP _ _) ?_;simp[arL,arH,ldS,h3];refine qg (qB _ _ _ _) ?_;simp[ldS];refine qg (qB _ _ _ _) ?_;by_cases hl:0≤x.args.length∧x.args.length≤0
  case neg=>
   rw[qQ (a:=(x.args.length:Int)) (lo:=0) (hi:=0) (by omega)];simp;refine qa rfl ?_ rfl;rw[hv];simp only[qp,V.bool.injEq,qqR];have:¬ x.args=[]:=fun hh=>hl (by rw[hh];simp)
   simp[this]
  rw[qU (a:=(x.args.length:Int)) (lo:=0) (hi:=0) (by omega)];have hl':x.args=[]:=qpP (by omega);simp[h3];by_cases ho:x.op=0
  case neg=>
   simp[ho];exact qa rfl (by rw[hv];simp[qp,hl',ho]) rfl
  simp[ho];by_cases hn:x.n=0
  case neg=>
   simp[hn];exact qa rfl (by rw[hv];simp[qp,hl',ho,hn]) rfl
  simp[hn];by_cases hr:x.man=0∧x.exp=0
  case neg=>
   rcases qpS.1 hr with hr1|hr1
   ·simp[hr1];exact qa rfl (by rw[hv];simp[qp,hl',hr1,ho,hn,true_and]) rfl
   ·simp[hr1];exact qa rfl (by rw[hv];simp[qp,hl',hr1,ho,hn,true_and]) rfl
  simp[hr];by_cases ht:x.text=⟨⟨[]⟩⟩
  case neg=>
   simp[ht];exact qa rfl (by rw[hv];simp[qp,hl',ho,hn,hr,qD ht]) rfl
  simp[ht];rw[ht] at hv;exact qa rfl (by rw[hv];simp[qp,hl',ho,hn,hr,qK rfl]) rfl
theorem qgb(x:Ex)(hx:x.ok)(h4:x.kind=4):∀S,Fn prog 180 [x.v] S (.bool (x.vOwn qb)):=by
 refine Pu.ib func180 ok180 (by simp[c180]) (by simp[V.under]) rfl ?_;have hv:=Ex.vOwn_eq qb x;generalize x.vOwn qb=r at hv ⊢
 ·simp only[h4] at hv;simp at hv;simp[c180,qM,ldS,h4];refine qg (yP _ _) ?_;simp[arL,arH,ldS,h4];refine qg (qB _ _ _ _) ?_;simp[ldS];refine qg (qB _ _ _ _) ?_;by_cases hl:0≤x.args.length∧x.args.length≤0
  case neg=>
   rw[qQ (a:=(x.args.length:Int)) (lo:=0) (hi:=0) (by omega)];simp;refine qa rfl ?_ rfl;rw[hv];simp only[qp,V.bool.injEq,qqR];have:¬ x.args=[]:=fun hh=>hl (by rw[hh];simp)
   simp[this]
  rw[qU (a:=(x.args.length:Int)) (lo:=0) (hi:=0) (by omega)];have hl':x.args=[]:=qpP (by omega);simp[h4];by_cases ho:x.op=0
  case neg=>
   simp[ho];exact qa rfl (by rw[hv];simp[qp,hl',ho]) rfl
  simp[ho];by_cases hn:x.n=0
  case neg=>
   simp[hn];exact qa rfl (by rw[hv];simp[qp,hl',ho,hn]) rfl
  simp[hn];by_cases hr:x.man=0∧x.exp=0
  case neg=>
   rcases qpS.1 hr with hr1|hr1
   ·simp[hr1];exact qa rfl (by rw[hv];simp[qp,hl',hr1,ho,hn,true_and]) rfl
   ·simp[hr1];exact qa rfl (by rw[hv];simp[qp,hl',hr1,ho,hn,true_and]) rfl
  simp[hr];by_cases ht:x.text=⟨⟨[]⟩⟩
  case neg=>
   simp[ht];exact qa rfl (by rw[hv];simp[qp,hl',ho,hn,hr,qD ht]) rfl
  simp[ht];rw[ht] at hv;exact qa rfl (by rw[hv];simp[qp,hl',ho,hn,hr,qK rfl]) rfl
theorem qfA(x:Ex)(hx:x.ok)(h5:x.kind=5):∀S,Fn prog 180 [x.v] S (.bool (x.vOwn qb)):=by
 refine Pu.ib func180 ok180 (by simp[c180]) (by simp[V.under]) rfl ?_;have hv:=Ex.vOwn_eq qb x;generalize x.vOwn qb=r at hv ⊢
 ·simp only[h5] at hv;simp at hv;simp[c180,qM,ldS,h5];refine qg (yP _ _) ?_;simp[arL,arH,ldS,h5];refine qg (qB _ _ _ _) ?_;simp[ldS];refine qg (qB _ _ _ _) ?_;by_cases hl:0≤x.args.length∧x.args.length≤0
  case neg=>
   rw[qQ (a:=(x.args.length:Int)) (lo:=0) (hi:=0) (by omega)];simp;refine qa rfl ?_ rfl;rw[hv];simp only[qp,V.bool.injEq,qqR];have:¬ x.args=[]:=fun hh=>hl (by rw[hh];simp)
   simp[this]
  rw[qU (a:=(x.args.length:Int)) (lo:=0) (hi:=0) (by omega)];have hl':x.args=[]:=qpP (by omega);simp[h5];refine qg (qjZ _ (Ex.ok_text hx) _) ?_;cases hb:YU x.text
  case false=>
   simp;exact qa rfl (by rw[hv];simp[qp,hl',hb]) rfl
  simp;by_cases ho:x.op=0
  case neg=>
   simp[ho];exact qa rfl (by rw[hv];simp[qp,hl',hb,ho]) rfl
  simp[ho];by_cases hn:x.n=0
  case neg=>
   simp[hn];exact qa rfl (by rw[hv];simp[qp,hl',hb,ho,hn]) rfl
  simp[hn];by_cases hr:x.man=0∧x.exp=0
  case neg=>
   rcases qpS.1 hr with hr1|hr1
   ·simp[hr1];exact qa rfl (by rw[hv];simp[qp,hl',hr1,hb,ho,hn,true_and]) rfl
   ·simp[hr1];exact qa rfl (by rw[hv];simp[qp,hl',hr1,hb,ho,hn,true_and]) rfl
  simp[hr];exact qa rfl (by rw[hv];simp[qp,hl',hb,ho,hn,hr]) rfl
theorem qeg(x:Ex)(hx:x.ok)(h6:x.kind=6):∀S,Fn prog 180 [x.v] S (.bool (x.vOwn qb)):=by
 refine Pu.ib func180 ok180 (by simp[c180]) (by simp[V.under]) rfl ?_;have hv:=Ex.vOwn_eq qb x;generalize x.vOwn qb=r at hv ⊢
 ·simp only[h6] at hv;simp at hv;simp[c180,qM,ldS,h6];refine qg (yP _ _) ?_;simp[arL,arH,ldS,h6];refine qg (qB _ _ _ _) ?_;simp[ldS];refine qg (qB _ _ _ _) ?_;by_cases hl:0≤x.args.length∧x.args.length≤0
  case neg=>
   rw[qQ (a:=(x.args.length:Int)) (lo:=0) (hi:=0) (by omega)];simp;refine qa rfl ?_ rfl;rw[hv];simp only[qp,V.bool.injEq,qqR];have:¬ x.args=[]:=fun hh=>hl (by rw[hh];simp)
   simp[this]
  rw[qU (a:=(x.args.length:Int)) (lo:=0) (hi:=0) (by omega)];have hl':x.args=[]:=qpP (by omega);simp[h6];refine qg (jf _ _) ?_;cases hb:qb x.text
  case false=>
   simp;exact qa rfl (by rw[hv];simp[qp,hl',hb]) rfl
  simp;by_cases ho:x.op=0
  case neg=>
   simp[ho];exact qa rfl (by rw[hv];simp[qp,hl',hb,ho]) rfl
  simp[ho];by_cases hn:x.n=0
  case neg=>
   simp[hn];exact qa rfl (by rw[hv];simp[qp,hl',hb,ho,hn]) rfl
  simp[hn];by_cases hr:x.man=0∧x.exp=0
  case neg=>
   rcases qpS.1 hr with hr1|hr1
   ·simp[hr1];exact qa rfl (by rw[hv];simp[qp,hl',hr1,hb,ho,hn,true_and]) rfl
   ·simp[hr1];exact qa rfl (by rw[hv];simp[qp,hl',hr1,hb,ho,hn,true_and]) rfl
  simp[hr];exact qa rfl (by rw[hv];simp[qp,hl',hb,ho,hn,hr]) rfl
theorem qek(x:Ex)(hx:x.ok)(h7:x.kind=7):∀S,Fn prog 180 [x.v] S (.bool (x.vOwn qb)):=by
 refine Pu.ib func180 ok180 (by simp[c180]) (by simp[V.under]) rfl ?_;have hv:=Ex.vOwn_eq qb x;generalize x.vOwn qb=r at hv ⊢
 ·simp only[h7] at hv;simp at hv;simp[c180,qM,ldS,h7];refine qg (yP _ _) ?_;simp[arL,arH,ldS,h7];refine qg (qB _ _ _ _) ?_;simp[ldS];refine qg (qB _ _ _ _) ?_;by_cases hl:1≤x.args.length∧x.args.length≤4
  case neg=>
   rw[qQ (a:=(x.args.length:Int)) (lo:=1) (hi:=4) (by omega)];simp;refine qa rfl ?_ rfl;rw[hv];simp only[qp,V.bool.injEq,qqR];have:¬ (1≤x.args.length∧x.args.length≤4):=by omega
   simp[this]
  rw[qU (a:=(x.args.length:Int)) (lo:=1) (hi:=4) (by omega)];have hl':1≤x.args.length∧x.args.length≤4:=by omega
  simp[h7];refine qg (jf _ _) ?_;cases hb:qb x.text
  case false=>
   simp;exact qa rfl (by rw[hv];simp[qp,hl',hb]) rfl
  simp;by_cases ho:x.op=0
  case neg=>
   simp[ho];exact qa rfl (by rw[hv];simp[qp,hl',hb,ho]) rfl
  simp[ho];by_cases hn:x.n=0
  case neg=>
   simp[hn];exact qa rfl (by rw[hv];simp[qp,hl',hb,ho,hn]) rfl
  simp[hn];by_cases hr:x.man=0∧x.exp=0
  case neg=>
   rcases qpS.1 hr with hr1|hr1
   ·simp[hr1];exact qa rfl (by rw[hv];simp[qp,hl',hr1,hb,ho,hn,true_and]) rfl
   ·simp[hr1];exact qa rfl (by rw[hv];simp[qp,hl',hr1,hb,ho,hn,true_and]) rfl
  simp[hr];exact qa rfl (by rw[hv];simp[qp,hl',hb,ho,hn,hr]) rfl
theorem qeA(x:Ex)(hx:x.ok)(h8:x.kind=8):∀S,Fn prog 180 [x.v] S (.bool (x.vOwn qb)):=by
 refine Pu.ib func180 ok180 (by simp[c180]) (by simp[V.under]) rfl ?_;have hv:=Ex.vOwn_eq qb x;generalize x.vOwn qb=r at hv ⊢
 ·simp only[h8] at hv;simp at hv;simp[c180,qM,ldS,h8];refine qg (yP _ _) ?_;simp[arL,arH,ldS,h8];refine qg (qB _ _ _ _) ?_;simp[ldS];refine qg (qB _ _ _ _) ?_;by_cases hl:1≤x.args.length∧x.args.length≤8
  case neg=>
   rw[qQ (a:=(x.args.length:Int)) (lo:=1) (hi:=8) (by omega)];simp;refine qa rfl ?_ rfl;rw[hv];simp only[qp,V.bool.injEq,qqR];have:¬ (1≤x.args.length∧x.args.length≤8):=by omega
   simp[this]
  rw[qU (a:=(x.args.length:Int)) (lo:=1) (hi:=8) (by omega)];have hl':1≤x.args.length∧x.args.length≤8:=by omega
  simp[h8];refine qg (jf _ _) ?_;cases hb:qb x.text
  case false=>
   simp;exact qa rfl (by rw[hv];simp[qp,hl',hb]) rfl
  simp;by_cases ho:x.op=0
  case neg=>
   simp[ho];exact qa rfl (by rw[hv];simp[qp,hl',hb,ho]) rfl
  simp[ho];by_cases hn:x.n=0
  case neg=>
   simp[hn];exact qa rfl (by rw[hv];simp[qp,hl',hb,ho,hn]) rfl
  simp[hn];by_cases hr:x.man=0∧x.exp=0
  case neg=>
   rcases qpS.1 hr with hr1|hr1
   ·simp[hr1];exact qa rfl (by rw[hv];simp[qp,hl',hr1,hb,ho,hn,true_and]) rfl
   ·simp[hr1];exact qa rfl (by rw[hv];simp[qp,hl',hr1,hb,ho,hn,true_and]) rfl
  simp[hr];exact qa rfl (by rw[hv];simp[qp,hl',hb,ho,hn,hr]) rfl
theorem qf8(x:Ex)(hx:x.ok)(h9:x.kind=9):∀S,Fn prog 180 [x.v] S (.bool (x.vOwn qb)):=by
 refine Pu.ib func180 ok180 (by simp[c180]) (by simp[V.under]) rfl ?_;have hv:=Ex.vOwn_eq qb x;generalize x.vOwn qb=r at hv ⊢
 ·simp only[h9] at hv;simp at hv;simp[c180,qM,ldS,h9];refine qg (yP _ _) ?_;simp[arL,arH,ldS,h9];refine qg (qB _ _ _ _) ?_;simp[ldS];refine qg (qB _ _ _ _) ?_;by_cases hl:1≤x.args.length∧x.args.length≤1
  case neg=>
   rw[qQ (a:=(x.args.length:Int)) (lo:=1) (hi:=1) (by omega)];simp;refine qa rfl ?_ rfl;rw[hv];simp only[qp,V.bool.injEq,qqR];have:¬ x.args.length=1:=by omega
   simp[this]
  rw[qU (a:=(x.args.length:Int)) (lo:=1) (hi:=1) (by omega)];have hl':x.args.length=1:=by omega
  simp[h9];by_cases hb1:x.op=1
  case neg=>
   by_cases hb2:x.op=2
   case neg=>
    simp[hb1,hb2];exact qa rfl (by rw[hv];simp[qp,hl',hb1,hb2]) rfl
   simp[hb2];by_cases hn:x.n=0
   case neg=>
    simp[hn];exact qa rfl (by rw[hv];simp[qp,hl',hb2,hn]) rfl
   simp[hn];by_cases hr:x.man=0∧x.exp=0
   case neg=>
    rcases qpS.1 hr with hr1|hr1
    ·simp[hr1];exact qa rfl (by rw[hv];simp[qp,hl',hr1,hb2,hn,true_and]) rfl
    ·simp[hr1];exact qa rfl (by rw[hv];simp[qp,hl',hr1,hb2,hn,true_and]) rfl
   simp[hr];by_cases ht:x.text=⟨⟨[]⟩⟩
   case neg=>
    simp[ht];exact qa rfl (by rw[hv];simp[qp,hl',hb2,hn,hr,qD ht]) rfl
   simp[ht];rw[ht] at hv;exact qa rfl (by rw[hv];simp[qp,hl',hb2,hn,hr,qK rfl]) rfl
  simp[hb1];by_cases hn:x.n=0
  case neg=>
   simp[hn];exact qa rfl (by rw[hv];simp[qp,hl',hb1,hn]) rfl
  simp[hn];by_cases hr:x.man=0∧x.exp=0
  case neg=>
   rcases qpS.1 hr with hr1|hr1
   ·simp[hr1];exact qa rfl (by rw[hv];simp[qp,hl',hr1,hb1,hn,true_and]) rfl
   ·simp[hr1];exact qa rfl (by rw[hv];simp[qp,hl',hr1,hb1,hn,true_and]) rfl
  simp[hr];by_cases ht:x.text=⟨⟨[]⟩⟩
  case neg=>
   simp[ht];exact qa rfl (by rw[hv];simp[qp,hl',hb1,hn,hr,qD ht]) rfl
  simp[ht];rw[ht] at hv;exact qa rfl (by rw[hv];simp[qp,hl',hb1,hn,hr,qK rfl]) rfl
theorem qdc(x:Ex)(hx:x.ok)(h10:x.kind=10):∀S,Fn prog 180 [x.v] S (.bool (x.vOwn qb)):=by
 refine Pu.ib func180 ok180 (by simp[c180]) (by simp[V.under]) rfl ?_;have hv:=Ex.vOwn_eq qb x;generalize x.vOwn qb=r at hv ⊢
 ·simp only[h10] at hv;simp at hv;simp[c180,qM,ldS,h10];refine qg (yP _ _) ?_;simp[arL,arH,ldS,h10];refine qg (qB _ _ _ _) ?_;simp[ldS];refine qg (qB _ _ _ _) ?_;by_cases hl:2≤x.args.length∧x.args.length≤2
  case neg=>
   rw[qQ (a:=(x.args.length:Int)) (lo:=2) (hi:=2) (by omega)];simp;refine qa rfl ?_ rfl;rw[hv];simp only[qp,V.bool.injEq,qqR];have:¬ x.args.length=2:=by omega
   simp[this]
  rw[qU (a:=(x.args.length:Int)) (lo:=2) (hi:=2) (by omega)];have hl':x.args.length=2:=by omega
  simp[h10];refine qg (qB _ _ _ _) ?_;by_cases hb:3≤x.op∧x.op≤18
  case neg=>
   rw[qQ (by omega)];simp;exact qa rfl (by rw[hv];simp[qp,hl',hb]) rfl
  rw[qU (by omega)];simp;by_cases hn:x.n=0
  case neg=>
   simp[hn];exact qa rfl (by rw[hv];simp[qp,hl',hb,hn]) rfl
  simp[hn];by_cases hr:x.man=0∧x.exp=0
  case neg=>
   rcases qpS.1 hr with hr1|hr1
   ·simp[hr1];exact qa rfl (by rw[hv];simp[qp,hl',hr1,hb,hn,true_and]) rfl
   ·simp[hr1];exact qa rfl (by rw[hv];simp[qp,hl',hr1,hb,hn,true_and]) rfl
  simp[hr];by_cases ht:x.text=⟨⟨[]⟩⟩
  case neg=>
   simp[ht];exact qa rfl (by rw[hv];simp[qp,hl',hb,hn,hr,qD ht]) rfl
  simp[ht];rw[ht] at hv;exact qa rfl (by rw[hv];simp[qp,hl',hb,hn,hr,qK rfl]) rfl
theorem qdW(x:Ex)(hx:x.ok)(h11:x.kind=11):∀S,Fn prog 180 [x.v] S (.bool (x.vOwn qb)):=by
 refine Pu.ib func180 ok180 (by simp[c180]) (by simp[V.under]) rfl ?_;have hv:=Ex.vOwn_eq qb x;generalize x.vOwn qb=r at hv ⊢
 ·simp only[h11] at hv;simp at hv;simp[c180,qM,ldS,h11];refine qg (yP _ _) ?_;simp[arL,arH,ldS,h11];refine qg (qB _ _ _ _) ?_;simp[ldS];refine qg (qB _ _ _ _) ?_;by_cases hl:3≤x.args.length∧x.args.length≤3
  case neg=>
   rw[qQ (a:=(x.args.length:Int)) (lo:=3) (hi:=3) (by omega)];simp;refine qa rfl ?_ rfl;rw[hv];simp only[qp,V.bool.injEq,qqR];have:¬ x.args.length=3:=by omega
   simp[this]
  rw[qU (a:=(x.args.length:Int)) (lo:=3) (hi:=3) (by omega)];have hl':x.args.length=3:=by omega
  simp[h11];by_cases ho:x.op=0
  case neg=>
   simp[ho];exact qa rfl (by rw[hv];simp[qp,hl',ho]) rfl
  simp[ho];by_cases hn:x.n=0
  case neg=>
   simp[hn];exact qa rfl (by rw[hv];simp[qp,hl',ho,hn]) rfl
  simp[hn];by_cases hr:x.man=0∧x.exp=0
  case neg=>
   rcases qpS.1 hr with hr1|hr1
   ·simp[hr1];exact qa rfl (by rw[hv];simp[qp,hl',hr1,ho,hn,true_and]) rfl
   ·simp[hr1];exact qa rfl (by rw[hv];simp[qp,hl',hr1,ho,hn,true_and]) rfl
  simp[hr];by_cases ht:x.text=⟨⟨[]⟩⟩
  case neg=>
   simp[ht];exact qa rfl (by rw[hv];simp[qp,hl',ho,hn,hr,qD ht]) rfl
  simp[ht];rw[ht] at hv;exact qa rfl (by rw[hv];simp[qp,hl',ho,hn,hr,qK rfl]) rfl
theorem qdM(x:Ex)(hx:x.ok)(h1:¬ x.kind=1)(h2:¬ x.kind=2)(h3:¬ x.kind=3)(h4:¬ x.kind=4)(h5:¬ x.kind=5)(h6:¬ x.kind=6)(h7:¬ x.kind=7)(h8:¬ x.kind=8)(h9:¬ x.kind=9)(h10:¬ x.kind=10)(h11:¬ x.kind=11):∀S,Fn prog 180 [x.v] S (.bool (x.vOwn qb)):=by
 refine Pu.ib func180 ok180 (by simp[c180]) (by simp[V.under]) rfl ?_;have hv:=Ex.vOwn_eq qb x;generalize x.vOwn qb=r at hv ⊢;have hv':r=false:=by rw[hv];simp[h1,h2,h3,h4,h5,h6,h7,h8,h9,h10,h11]
 simp[c180,qM,ldS];refine qg (yP _ _) ?_;simp[ldS];refine qg (qB _ _ _ _) ?_;rw[qQ (by omega)];simp;exact qa rfl (by rw[hv'];rfl) rfl
theorem qi4(x:Ex)(hx:x.ok):∀S,Fn prog 180 [x.v] S (.bool (x.vOwn qb)):=by
 by_cases h1:x.kind=1
 ·exact qe0 x hx h1
 by_cases h2:x.kind=2
 ·exact qez x hx h2
 by_cases h3:x.kind=3
 ·exact qfG x hx h3
 by_cases h4:x.kind=4
 ·exact qgb x hx h4
 by_cases h5:x.kind=5
 ·exact qfA x hx h5
 by_cases h6:x.kind=6
 ·exact qeg x hx h6
 by_cases h7:x.kind=7
 ·exact qek x hx h7
 by_cases h8:x.kind=8
 ·exact qeA x hx h8
 by_cases h9:x.kind=9
 ·exact qf8 x hx h9
 by_cases h10:x.kind=10
 ·exact qdc x hx h10
 by_cases h11:x.kind=11
 ·exact qdW x hx h11
 exact qdM x hx h1 h2 h3 h4 h5 h6 h7 h8 h9 h10 h11
end
section
attribute [local simp] yl eqV qM ldS stS qi Ze qaG qet zu Qi qY qF evX
theorem zH(n:Nat):qH 0 0 n=decide (n=0):=by unfold qH;rw[qp6];simp
theorem yQ(n:Nat):qH 1 1 n=decide (n=1):=by unfold qH;rw[qp6];simp;omega
theorem yJ(n:Nat):qH 1 (-1) n=decide (1≤n):=by unfold qH;rw[qp6];simp;omega
theorem yo(n:Nat):qH 1 2 n=decide (1≤n∧n≤2):=by unfold qH;rw[qp6];simp;omega
theorem yK(n:Nat):qH 0 8 n=decide (n≤8):=by unfold qH;rw[qp6];simp;omega
theorem yO(n:Nat):qH 2 8 n=decide (2≤n∧n≤8):=by unfold qH;rw[qp6];simp;omega
theorem qj1{l:List Sm}(h:0<l.length):Sm.noIf l=decide (l[0].kind≠4∧l[0].kind≠5):=by
 cases l with
 | nil=>simp at h
 | cons x l=>rfl
theorem qdN:qb ⟨⟨[]⟩⟩=false:=rfl
theorem qjz{l:List Sm}(h:0<l.length)(b:Bool)(S:St):iaS S 8 (.sl b (l.map Sm.v)) 0=some (.iptr (Sm.v l[0]) 0):=qiH (i:=0) h b S
theorem Sm.vOwn_1(nm:Bz→Bool)(s:Sm)(h:s.kind=1):s.vOwn nm=(qH 0 0 s.targets.length && qH 0 0 s.exps.length && qH 0 0 s.elems.length && qH 0 0 s.decls.length && qH 0 0 s.body.length && zk s.text && s.labels.all nm && s.targets.all Ex.tgt):=by
 cases s;simp only[Sm.kind] at h;subst h;simp only[Sm.vOwn,Sm.targets,Sm.exps,Sm.elems,Sm.decls,Sm.body,Sm.text,Sm.labels,zH,yQ,yJ,yo,yK,yO];simp only[reduceIte,Int.reduceEq];ac_rfl
theorem Sm.vOwn_2(nm:Bz→Bool)(s:Sm)(h:s.kind=2):s.vOwn nm=(qH 1 (-1) s.targets.length && qH 1 1 s.exps.length && qH 0 0 s.elems.length && qH 0 0 s.decls.length && qH 0 0 s.body.length && zk s.text && s.labels.all nm && s.targets.all Ex.tgt):=by
 cases s;simp only[Sm.kind] at h;subst h;simp only[Sm.vOwn,Sm.targets,Sm.exps,Sm.elems,Sm.decls,Sm.body,Sm.text,Sm.labels,zH,yQ,yJ,yo,yK,yO];simp only[reduceIte,Int.reduceEq];ac_rfl
theorem Sm.vOwn_3(nm:Bz→Bool)(s:Sm)(h:s.kind=3):s.vOwn nm=(qH 0 0 s.targets.length && qH 1 1 s.exps.length && qH 0 0 s.elems.length && qH 0 0 s.decls.length && qH 0 0 s.body.length && zk s.text && s.labels.all nm && s.targets.all Ex.tgt):=by
 cases s;simp only[Sm.kind] at h;subst h;simp only[Sm.vOwn,Sm.targets,Sm.exps,Sm.elems,Sm.decls,Sm.body,Sm.text,Sm.labels,zH,yQ,yJ,yo,yK,yO];simp only[reduceIte,Int.reduceEq];ac_rfl
theorem Sm.vOwn_4(nm:Bz→Bool)(s:Sm)(h:s.kind=4):s.vOwn nm=(qH 0 0 s.targets.length && qH 1 1 s.exps.length && qH 0 0 s.elems.length && qH 0 0 s.decls.length && qH 1 2 s.body.length && zk s.text && s.labels.all nm && s.targets.all Ex.tgt && Sm.noIf s.body):=by
 cases s;simp only[Sm.kind] at h;subst h;simp only[Sm.vOwn,Sm.targets,Sm.exps,Sm.elems,Sm.decls,Sm.body,Sm.text,Sm.labels,zH,yQ,yJ,yo,yK,yO];simp only[reduceIte,Int.reduceEq];ac_rfl
theorem Sm.vOwn_5(nm:Bz→Bool)(s:Sm)(h:s.kind=5):s.vOwn nm=(qH 1 1 s.targets.length && qH 0 0 s.exps.length && qH 1 (-1) s.elems.length && qH 0 0 s.decls.length && qH 1 1 s.body.length && zk s.text && s.labels.all nm && s.targets.all Ex.tgt):=by
 cases s;simp only[Sm.kind] at h;subst h;simp only[Sm.vOwn,Sm.targets,Sm.exps,Sm.elems,Sm.decls,Sm.body,Sm.text,Sm.labels,zH,yQ,yJ,yo,yK,yO];simp only[reduceIte,Int.reduceEq];ac_rfl
theorem Sm.vOwn_6(nm:Bz→Bool)(s:Sm)(h:s.kind=6):s.vOwn nm=(qH 0 0 s.targets.length && qH 0 8 s.exps.length && qH 0 0 s.elems.length && qH 0 0 s.decls.length && qH 0 0 s.body.length && nm s.text && s.labels.all nm && s.targets.all Ex.tgt):=by
 cases s;simp only[Sm.kind] at h;subst h;simp only[Sm.vOwn,Sm.targets,Sm.exps,Sm.elems,Sm.decls,Sm.body,Sm.text,Sm.labels,zH,yQ,yJ,yo,yK,yO];simp only[reduceIte,Int.reduceEq];ac_rfl
theorem Sm.vOwn_7(nm:Bz→Bool)(s:Sm)(h:s.kind=7):s.vOwn nm=(qH 0 0 s.targets.length && qH 0 0 s.exps.length && qH 0 0 s.elems.length && qH 1 (-1) s.decls.length && qH 1 (-1) s.body.length && zk s.text && s.labels.all nm && s.targets.all Ex.tgt):=by
 cases s;simp only[Sm.kind] at h;subst h;simp only[Sm.vOwn,Sm.targets,Sm.exps,Sm.elems,Sm.decls,Sm.body,Sm.text,Sm.labels,zH,yQ,yJ,yo,yK,yO];simp only[reduceIte,Int.reduceEq];ac_rfl
theorem Sm.vOwn_8(nm:Bz→Bool)(s:Sm)(h:s.kind=8):s.vOwn nm=(qH 0 0 s.targets.length && qH 0 0 s.exps.length && qH 0 0 s.elems.length && qH 0 0 s.decls.length && qH 1 (-1) s.body.length && zk s.text && s.labels.all nm && s.targets.all Ex.tgt):=by
 cases s;simp only[Sm.kind] at h;subst h;simp only[Sm.vOwn,Sm.targets,Sm.exps,Sm.elems,Sm.decls,Sm.body,Sm.text,Sm.labels,zH,yQ,yJ,yo,yK,yO];simp only[reduceIte,Int.reduceEq];ac_rfl
theorem Sm.vOwn_no(nm:Bz→Bool)(s:Sm)(h:¬ (1≤s.kind∧s.kind≤8)):s.vOwn nm=false:=by
 cases s with
 | mk l k t g e f d b=>
  simp only[Sm.kind] at h;simp only[Sm.vOwn,if_neg (show ¬ k=1 by omega),if_neg (show ¬ k=2 by omega),if_neg (show ¬ k=3 by omega),if_neg (show ¬ k=4 by omega),if_neg (show ¬ k=5 by omega),if_neg (show ¬ k=6 by omega),if_neg (show ¬ k=7 by omega),if_neg (show ¬ k=8 by omega),Bool.and_false]
theorem qep(s:Sm)(hs:s.ok)(hk:s.kind=1):∀S,Fn prog 183 [s.v] S (.bool (s.vOwn qb)):=by
 refine Pu.ib func183 ok183 (by simp[c183]) (by simp[V.under]) rfl ?_;have hO:=(Sm.ok_iff s).1 hs;rw[Sm.vOwn_1 qb s hk];simp[c183,hk];refine qg (qr _ _ _ _) ?_;cases f0:qH 0 0 s.targets.length
 case false=>
  simp;exact qa rfl (by simp[qp,f0]) rfl
 simp;refine qg (qr _ _ _ _) ?_;cases f1:qH 0 0 s.exps.length
 case false=>
  simp;exact qa rfl (by simp[qp,f0,f1]) rfl
 simp;refine qg (qr _ _ _ _) ?_;cases f2:qH 0 0 s.elems.length
 case false=>
  simp;exact qa rfl (by simp[qp,f0,f1,f2]) rfl
 simp;refine qg (qr _ _ _ _) ?_;cases f3:qH 0 0 s.decls.length
 case false=>
  simp;exact qa rfl (by simp[qp,f0,f1,f2,f3]) rfl
 simp;refine qg (qr _ _ _ _) ?_;cases f4:qH 0 0 s.body.length
 case false=>
  simp;exact qa rfl (by simp[qp,f0,f1,f2,f3,f4]) rfl
 simp;by_cases ht:s.text=⟨⟨[]⟩⟩
 case neg=>
  simp[ht];exact qa rfl (by simp[qp,f0,f1,f2,f3,f4,qD ht]) rfl
 simp[ht];refine qg (yN _ hO.labels.1 _) ?_;cases hl:s.labels.all qb
 case false=>
  simp;exact qa rfl (by simp[qp]) rfl
 simp;refine qg (Q1 _ hO.targets.1 _) ?_;cases hg:s.targets.all Ex.tgt
 case false=>
  simp;exact qa rfl (by simp[qp]) rfl
 simp[hk];exact qa rfl (by simp[qp,f0,f1,f2,f3,f4,qK rfl]) rfl
theorem qeG(s:Sm)(hs:s.ok)(hk:s.kind=2):∀S,Fn prog 183 [s.v] S (.bool (s.vOwn qb)):=by
 refine Pu.ib func183 ok183 (by simp[c183]) (by simp[V.under]) rfl ?_;have hO:=(Sm.ok_iff s).1 hs;rw[Sm.vOwn_2 qb s hk];simp[c183,hk];refine qg (qr _ _ _ _) ?_;cases f0:qH 1 (-1) s.targets.length
 case false=>
  simp;exact qa rfl (by simp[qp,f0]) rfl
 simp;refine qg (qr _ _ _ _) ?_;cases f1:qH 1 1 s.exps.length
 case false=>
  simp;exact qa rfl (by simp[qp,f0,f1]) rfl
 simp;refine qg (qr _ _ _ _) ?_;cases f2:qH 0 0 s.elems.length
 case false=>
  simp;exact qa rfl (by simp[qp,f0,f1,f2]) rfl
 simp;refine qg (qr _ _ _ _) ?_;cases f3:qH 0 0 s.decls.length
 case false=>
  simp;exact qa rfl (by simp[qp,f0,f1,f2,f3]) rfl
 simp;refine qg (qr _ _ _ _) ?_;cases f4:qH 0 0 s.body.length
 case false=>
  simp;exact qa rfl (by simp[qp,f0,f1,f2,f3,f4]) rfl
 simp;by_cases ht:s.text=⟨⟨[]⟩⟩
 case neg=>
  simp[ht];exact qa rfl (by simp[qp,f0,f1,f2,f3,f4,qD ht]) rfl
 simp[ht];refine qg (yN _ hO.labels.1 _) ?_;cases hl:s.labels.all qb
 case false=>
  simp;exact qa rfl (by simp[qp]) rfl
 simp;refine qg (Q1 _ hO.targets.1 _) ?_;cases hg:s.targets.all Ex.tgt
 case false=>
  simp;exact qa rfl (by simp[qp]) rfl
 simp[hk];exact qa rfl (by simp[qp,f0,f1,f2,f3,f4,qK rfl]) rfl
theorem qeN(s:Sm)(hs:s.ok)(hk:s.kind=3):∀S,Fn prog 183 [s.v] S (.bool (s.vOwn qb)):=by
 refine Pu.ib func183 ok183 (by simp[c183]) (by simp[V.under]) rfl ?_;have hO:=(Sm.ok_iff s).1 hs;rw[Sm.vOwn_3 qb s hk];simp[c183,hk];refine qg (qr _ _ _ _) ?_;cases f0:qH 0 0 s.targets.length
 case false=>
  simp;exact qa rfl (by simp[qp,f0]) rfl
 simp;refine qg (qr _ _ _ _) ?_;cases f1:qH 1 1 s.exps.length
 case false=>
  simp;exact qa rfl (by simp[qp,f0,f1]) rfl
 simp;refine qg (qr _ _ _ _) ?_;cases f2:qH 0 0 s.elems.length
 case false=>
  simp;exact qa rfl (by simp[qp,f0,f1,f2]) rfl
 simp;refine qg (qr _ _ _ _) ?_;cases f3:qH 0 0 s.decls.length
 case false=>
  simp;exact qa rfl (by simp[qp,f0,f1,f2,f3]) rfl
 simp;refine qg (qr _ _ _ _) ?_;cases f4:qH 0 0 s.body.length
 case false=>
  simp;exact qa rfl (by simp[qp,f0,f1,f2,f3,f4]) rfl
 simp;by_cases ht:s.text=⟨⟨[]⟩⟩
 case neg=>
  simp[ht];exact qa rfl (by simp[qp,f0,f1,f2,f3,f4,qD ht]) rfl
 simp[ht];refine qg (yN _ hO.labels.1 _) ?_;cases hl:s.labels.all qb
 case false=>
  simp;exact qa rfl (by simp[qp]) rfl
 simp;refine qg (Q1 _ hO.targets.1 _) ?_;cases hg:s.targets.all Ex.tgt
 case false=>
  simp;exact qa rfl (by simp[qp]) rfl
 simp[hk];exact qa rfl (by simp[qp,f0,f1,f2,f3,f4,qK rfl]) rfl
theorem qeb(s:Sm)(hs:s.ok)(hk:s.kind=4):∀S,Fn prog 183 [s.v] S (.bool (s.vOwn qb)):=by
 refine Pu.ib func183 ok183 (by simp[c183]) (by simp[V.under]) rfl ?_;have hO:=(Sm.ok_iff s).1 hs;rw[Sm.vOwn_4 qb s hk];simp[c183,hk];refine qg (qr _ _ _ _) ?_;cases f0:qH 0 0 s.targets.length
 case false=>
  simp;exact qa rfl (by simp[qp,f0]) rfl
 simp;refine qg (qr _ _ _ _) ?_;cases f1:qH 1 1 s.exps.length
 case false=>
  simp;exact qa rfl (by simp[qp,f0,f1]) rfl
 simp;refine qg (qr _ _ _ _) ?_;cases f2:qH 0 0 s.elems.length
 case false=>
  simp;exact qa rfl (by simp[qp,f0,f1,f2]) rfl
 simp;refine qg (qr _ _ _ _) ?_;cases f3:qH 0 0 s.decls.length
 case false=>
  simp;exact qa rfl (by simp[qp,f0,f1,f2,f3]) rfl
 simp;refine qg (qr _ _ _ _) ?_;cases f4:qH 1 2 s.body.length
 case false=>
  simp;exact qa rfl (by simp[qp,f0,f1,f2,f3,f4]) rfl
 simp;by_cases ht:s.text=⟨⟨[]⟩⟩
 case neg=>
  simp[ht];exact qa rfl (by simp[qp,f0,f1,f2,f3,f4,qD ht]) rfl
 simp[ht];refine qg (yN _ hO.labels.1 _) ?_;cases hl:s.labels.all qb
 case false=>
  simp;exact qa rfl (by simp[qp]) rfl
 simp;refine qg (Q1 _ hO.targets.1 _) ?_;cases hg:s.targets.all Ex.tgt
 case false=>
  simp;exact qa rfl (by simp[qp]) rfl
 have hb:0<s.body.length:=by rw[yo] at f4;simp at f4;omega
 have hno:=qj1 hb;rw[hno];by_cases g4:s.body[0].kind=4
 case pos=>
  simp[qjz hb,hk,g4];exact qa rfl (by simp[qp]) rfl
 by_cases g5:s.body[0].kind=5
 case pos=>
  simp[qjz hb,hk,g4,g5];exact qa rfl (by simp[qp]) rfl
 simp[qjz hb,hk,g4,g5];exact qa rfl (by simp[qp,f0,f1,f2,f3,f4,qK rfl]) rfl
theorem qel(s:Sm)(hs:s.ok)(hk:s.kind=5):∀S,Fn prog 183 [s.v] S (.bool (s.vOwn qb)):=by
 refine Pu.ib func183 ok183 (by simp[c183]) (by simp[V.under]) rfl ?_;have hO:=(Sm.ok_iff s).1 hs;rw[Sm.vOwn_5 qb s hk];simp[c183,hk];refine qg (qr _ _ _ _) ?_;cases f0:qH 1 1 s.targets.length
 case false=>
  simp;exact qa rfl (by simp[qp,f0]) rfl
 simp;refine qg (qr _ _ _ _) ?_;cases f1:qH 0 0 s.exps.length
 case false=>
  simp;exact qa rfl (by simp[qp,f0,f1]) rfl
 simp;refine qg (qr _ _ _ _) ?_;cases f2:qH 1 (-1) s.elems.length
 case false=>
  simp;exact qa rfl (by simp[qp,f0,f1,f2]) rfl
 simp;refine qg (qr _ _ _ _) ?_;cases f3:qH 0 0 s.decls.length
 case false=>
  simp;exact qa rfl (by simp[qp,f0,f1,f2,f3]) rfl
 simp;refine qg (qr _ _ _ _) ?_;cases f4:qH 1 1 s.body.length
 case false=>
  simp;exact qa rfl (by simp[qp,f0,f1,f2,f3,f4]) rfl
 simp;by_cases ht:s.text=⟨⟨[]⟩⟩
 case neg=>
  simp[ht];exact qa rfl (by simp[qp,f0,f1,f2,f3,f4,qD ht]) rfl
 simp[ht];refine qg (yN _ hO.labels.1 _) ?_;cases hl:s.labels.all qb
 case false=>
  simp;exact qa rfl (by simp[qp]) rfl
 simp;refine qg (Q1 _ hO.targets.1 _) ?_;cases hg:s.targets.all Ex.tgt
 case false=>
  simp;exact qa rfl (by simp[qp]) rfl
 simp[hk];exact qa rfl (by simp[qp,f0,f1,f2,f3,f4,qK rfl]) rfl
theorem qgt(s:Sm)(hs:s.ok)(hk:s.kind=6):∀S,Fn prog 183 [s.v] S (.bool (s.vOwn qb)):=by
 refine Pu.ib func183 ok183 (by simp[c183]) (by simp[V.under]) rfl ?_;have hO:=(Sm.ok_iff s).1 hs;rw[Sm.vOwn_6 qb s hk];simp[c183,hk];refine qg (qr _ _ _ _) ?_;cases f0:qH 0 0 s.targets.length
 case false=>
  simp;exact qa rfl (by simp[qp,f0]) rfl
 simp;refine qg (qr _ _ _ _) ?_;cases f1:qH 0 8 s.exps.length
 case false=>
  simp;exact qa rfl (by simp[qp,f0,f1]) rfl
 simp;refine qg (qr _ _ _ _) ?_;cases f2:qH 0 0 s.elems.length
 case false=>
  simp;exact qa rfl (by simp[qp,f0,f1,f2]) rfl
 simp;refine qg (qr _ _ _ _) ?_;cases f3:qH 0 0 s.decls.length
 case false=>
  simp;exact qa rfl (by simp[qp,f0,f1,f2,f3]) rfl
 simp;refine qg (qr _ _ _ _) ?_;cases f4:qH 0 0 s.body.length
 case false=>
  simp;exact qa rfl (by simp[qp,f0,f1,f2,f3,f4]) rfl
 simp;by_cases ht:s.text=⟨⟨[]⟩⟩
 case pos=>
  simp[ht];exact qa rfl (by simp[qp,f0,f1,f2,f3,f4,qdN]) rfl
 simp[ht];refine qg (jf _ _) ?_;cases hn:qb s.text
 case false=>
  simp;exact qa rfl (by simp[qp,f0,f1,f2,f3,f4,hn]) rfl
 simp;refine qg (yN _ hO.labels.1 _) ?_;cases hl:s.labels.all qb
 case false=>
  simp;exact qa rfl (by simp[qp]) rfl
 simp;refine qg (Q1 _ hO.targets.1 _) ?_;cases hg:s.targets.all Ex.tgt
 case false=>
  simp;exact qa rfl (by simp[qp]) rfl
 simp[hk];exact qa rfl (by simp[qp,f0,f1,f2,f3,f4,hn]) rfl
theorem qgy(s:Sm)(hs:s.ok)(hk:s.kind=7):∀S,Fn prog 183 [s.v] S (.bool (s.vOwn qb)):=by
 refine Pu.ib func183 ok183 (by simp[c183]) (by simp[V.under]) rfl ?_;have hO:=(Sm.ok_iff s).1 hs;rw[Sm.vOwn_7 qb s hk];simp[c183,hk];refine qg (qr _ _ _ _) ?_;cases f0:qH 0 0 s.targets.length
 case false=>
  simp;exact qa rfl (by simp[qp,f0]) rfl
 simp;refine qg (qr _ _ _ _) ?_;cases f1:qH 0 0 s.exps.length
 case false=>
  simp;exact qa rfl (by simp[qp,f0,f1]) rfl
 simp;refine qg (qr _ _ _ _) ?_;cases f2:qH 0 0 s.elems.length
 case false=>
  simp;exact qa rfl (by simp[qp,f0,f1,f2]) rfl
 simp;refine qg (qr _ _ _ _) ?_;cases f3:qH 1 (-1) s.decls.length
 case false=>
  simp;exact qa rfl (by simp[qp,f0,f1,f2,f3]) rfl
 simp;refine qg (qr _ _ _ _) ?_;cases f4:qH 1 (-1) s.body.length
 case false=>
  simp;exact qa rfl (by simp[qp,f0,f1,f2,f3,f4]) rfl
 simp;by_cases ht:s.text=⟨⟨[]⟩⟩
 case neg=>
  simp[ht];exact qa rfl (by simp[qp,f0,f1,f2,f3,f4,qD ht]) rfl
 simp[ht];refine qg (yN _ hO.labels.1 _) ?_;cases hl:s.labels.all qb
 case false=>
  simp;exact qa rfl (by simp[qp]) rfl
 simp;refine qg (Q1 _ hO.targets.1 _) ?_;cases hg:s.targets.all Ex.tgt
 case false=>
  simp;exact qa rfl (by simp[qp]) rfl
 simp[hk];exact qa rfl (by simp[qp,f0,f1,f2,f3,f4,qK rfl]) rfl
theorem qfe(s:Sm)(hs:s.ok)(hk:s.kind=8):∀S,Fn prog 183 [s.v] S (.bool (s.vOwn qb)):=by
 refine Pu.ib func183 ok183 (by simp[c183]) (by simp[V.under]) rfl ?_;have hO:=(Sm.ok_iff s).1 hs;rw[Sm.vOwn_8 qb s hk];simp[c183,hk];refine qg (qr _ _ _ _) ?_;cases f0:qH 0 0 s.targets.length
 case false=>
  simp;exact qa rfl (by simp[qp,f0]) rfl
 simp;refine qg (qr _ _ _ _) ?_;cases f1:qH 0 0 s.exps.length
 case false=>
  simp;exact qa rfl (by simp[qp,f0,f1]) rfl
 simp;refine qg (qr _ _ _ _) ?_;cases f2:qH 0 0 s.elems.length
 case false=>
  simp;exact qa rfl (by simp[qp,f0,f1,f2]) rfl
 simp;refine qg (qr _ _ _ _) ?_;cases f3:qH 0 0 s.decls.length
 case false=>
  simp;exact qa rfl (by simp[qp,f0,f1,f2,f3]) rfl
 simp;refine qg (qr _ _ _ _) ?_;cases f4:qH 1 (-1) s.body.length
 case false=>
  simp;exact qa rfl (by simp[qp,f0,f1,f2,f3,f4]) rfl
 simp;by_cases ht:s.text=⟨⟨[]⟩⟩
 case neg=>
  simp[ht];exact qa rfl (by simp[qp,f0,f1,f2,f3,f4,qD ht]) rfl
 simp[ht];refine qg (yN _ hO.labels.1 _) ?_;cases hl:s.labels.all qb
 case false=>
  simp;exact qa rfl (by simp[qp]) rfl
 simp;refine qg (Q1 _ hO.targets.1 _) ?_;cases hg:s.targets.all Ex.tgt
 case false=>
  simp;exact qa rfl (by simp[qp]) rfl
 simp[hk];exact qa rfl (by simp[qp,f0,f1,f2,f3,f4,qK rfl]) rfl
theorem qdv(s:Sm)(hs:s.ok)(h:¬ (1≤s.kind∧s.kind≤8)):∀S,Fn prog 183 [s.v] S (.bool (s.vOwn qb)):=by
 refine Pu.ib func183 ok183 (by simp[c183]) (by simp[V.under]) rfl ?_;have hO:=(Sm.ok_iff s).1 hs;rw[Sm.vOwn_no qb s h];simp[c183,show ¬ s.kind=1 by omega,show ¬ s.kind=2 by omega,show ¬ s.kind=3 by omega,show ¬ s.kind=4 by omega,show ¬ s.kind=5 by omega,show ¬ s.kind=6 by omega,show ¬ s.kind=7 by omega,show ¬ s.kind=8 by omega];exact qa rfl rfl rfl
theorem qlJ(s:Sm)(hs:s.ok):∀S,Fn prog 183 [s.v] S (.bool (s.vOwn qb)):=by
 by_cases h1:s.kind=1
 ·exact qep s hs h1
 by_cases h2:s.kind=2
 ·exact qeG s hs h2
 by_cases h3:s.kind=3
 ·exact qeN s hs h3
 by_cases h4:s.kind=4
 ·exact qeb s hs h4
 by_cases h5:s.kind=5
 ·exact qel s hs h5
 by_cases h6:s.kind=6
 ·exact qgt s hs h6
 by_cases h7:s.kind=7
 ·exact qgy s hs h7
 by_cases h8:s.kind=8
 ·exact qfe s hs h8
 exact qdv s hs (by omega)
theorem De.vOwn_1(nm:Bz→Bool)(d:De)(h:d.kind=1):d.vOwn nm=(qH 1 (-1) d.names.length && qH 0 0 d.exps.length && qH 0 0 d.body.length && qH 0 0 d.formals.length && d.names.all nm && (decide (1≤d.type∧d.type≤3))):=by
 cases d;simp only[De.kind] at h;subst h;simp only[De.vOwn,De.names,De.exps,De.formals,De.body,De.own,De.type,zH,yQ,yJ,yo,yK,yO];simp only[reduceIte,Int.reduceEq];ac_rfl
theorem De.vOwn_2(nm:Bz→Bool)(d:De)(h:d.kind=2):d.vOwn nm=(qH 1 (-1) d.names.length && qH 2 8 d.exps.length && qH 0 0 d.body.length && qH 0 0 d.formals.length && d.names.all nm && (decide (1≤d.type∧d.type≤3) && decide (d.exps.length % 2=0))):=by
 cases d;simp only[De.kind] at h;subst h;simp only[De.vOwn,De.names,De.exps,De.formals,De.body,De.own,De.type,zH,yQ,yJ,yo,yK,yO];simp only[reduceIte,Int.reduceEq];ac_rfl
theorem De.vOwn_3(nm:Bz→Bool)(d:De)(h:d.kind=3):d.vOwn nm=(qH 1 1 d.names.length && qH 1 (-1) d.exps.length && qH 0 0 d.body.length && qH 0 0 d.formals.length && d.names.all nm && (!d.own && decide (d.type=0))):=by
 cases d;simp only[De.kind] at h;subst h;simp only[De.vOwn,De.names,De.exps,De.formals,De.body,De.own,De.type,zH,yQ,yJ,yo,yK,yO];simp only[reduceIte,Int.reduceEq];ac_rfl
theorem De.vOwn_4(nm:Bz→Bool)(d:De)(h:d.kind=4):d.vOwn nm=(qH 1 1 d.names.length && qH 0 0 d.exps.length && qH 1 1 d.body.length && qH 0 8 d.formals.length && d.names.all nm && (!d.own && decide (0≤d.type∧d.type≤3) && Qb nm d.formals [])):=by
 cases d;simp only[De.kind] at h;subst h;simp only[De.vOwn,De.names,De.exps,De.formals,De.body,De.own,De.type,zH,yQ,yJ,yo,yK,yO];simp only[reduceIte,Int.reduceEq];ac_rfl
theorem De.vOwn_no(nm:Bz→Bool)(s:De)(h:¬ (1≤s.kind∧s.kind≤4)):s.vOwn nm=false:=by
 cases s with
 | mk k o t n e f b=>
  simp only[De.kind] at h;simp only[De.vOwn,if_neg (show ¬ k=1 by omega),if_neg (show ¬ k=2 by omega),if_neg (show ¬ k=3 by omega),if_neg (show ¬ k=4 by omega),Bool.and_false]
theorem qoq(n:Nat):Int.tmod (n:Int) 2=((n % 2:Nat):Int):=rfl
theorem qfh(d:De)(hs:d.ok)(hk:d.kind=1):∀S,Fn prog 182 [d.v] S (.bool (d.vOwn qb)):=by
 refine Pu.ib func182 ok182 (by simp[c182]) (by simp[V.under]) rfl ?_;have hO:=(De.ok_iff d).1 hs;rw[De.vOwn_1 qb d hk];simp[c182,hk];refine qg (qr _ _ _ _) ?_;cases f0:qH 1 (-1) d.names.length
 case false=>
  simp;exact qa rfl (by simp[qp,f0]) rfl
 simp;refine qg (qr _ _ _ _) ?_;cases f1:qH 0 0 d.exps.length
 case false=>
  simp;exact qa rfl (by simp[qp,f0,f1]) rfl
 simp;refine qg (qr _ _ _ _) ?_;cases f2:qH 0 0 d.body.length
 case false=>
  simp;exact qa rfl (by simp[qp,f0,f1,f2]) rfl
 simp;refine qg (qr _ _ _ _) ?_;cases f3:qH 0 0 d.formals.length
 case false=>
  simp;exact qa rfl (by simp[qp,f0,f1,f2,f3]) rfl
 simp;refine qg (yN _ hO.names.1 _) ?_;cases hl:d.names.all qb
 case false=>
  simp;exact qa rfl (by simp[qp,f0]) rfl
 simp;have hgo:∀o:Bool,o=d.own→True:=fun _ _=>trivial
 cases ho:d.own
 case false=>
  simp[ho];refine qg (qB _ _ _ _) ?_;by_cases ht:1≤d.type∧d.type≤3
  case neg=>
   rw[qQ ht];simp;exact qa rfl (by simp[qp,f0,f1,f2,f3,ht]) rfl
  rw[qU ht];simp[hk];refine qg (qB _ _ _ _) ?_;rw[qU (show 0≤d.type∧d.type≤3 by omega)];simp[hk];refine qg (YA _ hO.formals.1 _) ?_;have hf:d.formals=[]:=qpP (by rw[zH] at f3;simpa using f3);simp[hf,Qb];exact qa rfl (by simp[qp,f0,f1,f2,f3,hf,ht]) rfl
 case true=>
  simp[ho];refine qg (qB _ _ _ _) ?_;by_cases ht:1≤d.type∧d.type≤3
  case neg=>
   rw[qQ ht];simp;exact qa rfl (by simp[qp,f0,f1,f2,f3,ht]) rfl
  rw[qU ht];simp[hk];refine qg (qB _ _ _ _) ?_;rw[qU (show 0≤d.type∧d.type≤3 by omega)];simp[hk];refine qg (YA _ hO.formals.1 _) ?_;have hf:d.formals=[]:=qpP (by rw[zH] at f3;simpa using f3);simp[hf,Qb];exact qa rfl (by simp[qp,f0,f1,f2,f3,hf,ht]) rfl
theorem qfK(d:De)(hs:d.ok)(hk:d.kind=2):∀S,Fn prog 182 [d.v] S (.bool (d.vOwn qb)):=by
 refine Pu.ib func182 ok182 (by simp[c182]) (by simp[V.under]) rfl ?_;have hO:=(De.ok_iff d).1 hs;rw[De.vOwn_2 qb d hk];simp[c182,hk];refine qg (qr _ _ _ _) ?_;cases f0:qH 1 (-1) d.names.length
 case false=>
  simp;exact qa rfl (by simp[qp,f0]) rfl
 simp;refine qg (qr _ _ _ _) ?_;cases f1:qH 2 8 d.exps.length
 case false=>
  simp;exact qa rfl (by simp[qp,f0,f1]) rfl
 simp;refine qg (qr _ _ _ _) ?_;cases f2:qH 0 0 d.body.length
 case false=>
  simp;exact qa rfl (by simp[qp,f0,f1,f2]) rfl
 simp;refine qg (qr _ _ _ _) ?_;cases f3:qH 0 0 d.formals.length
 case false=>
  simp;exact qa rfl (by simp[qp,f0,f1,f2,f3]) rfl
 simp;refine qg (yN _ hO.names.1 _) ?_;cases hl:d.names.all qb
 case false=>
  simp;exact qa rfl (by simp[qp,f0]) rfl
 simp;have hgo:∀o:Bool,o=d.own→True:=fun _ _=>trivial
 cases ho:d.own
 case false=>
  simp[ho];refine qg (qB _ _ _ _) ?_;by_cases ht:1≤d.type∧d.type≤3
  case neg=>
   rw[qQ ht];simp;exact qa rfl (by simp[qp,f0,f1,f2,f3,ht]) rfl
  rw[qU ht];simp[hk];refine qg (qB _ _ _ _) ?_;rw[qU (show 0≤d.type∧d.type≤3 by omega)];simp[hk];have hmod:=qoq d.exps.length;by_cases hm:d.exps.length % 2=0
  case neg=>
   simp[hmod,hm,show ¬ ((d.exps.length:Int) % 2=0) by omega];exact qa rfl (by simp[qp,f0,f1,f2,f3,ht,hm]) rfl
  simp[hmod,hm,show ((d.exps.length:Int) % 2=0) by omega];refine qg (YA _ hO.formals.1 _) ?_;have hf:d.formals=[]:=qpP (by rw[zH] at f3;simpa using f3);simp[hf,Qb];exact qa rfl (by simp[qp,f0,f1,f2,f3,hf,ht,hm]) rfl
 case true=>
  simp[ho];refine qg (qB _ _ _ _) ?_;by_cases ht:1≤d.type∧d.type≤3
  case neg=>
   rw[qQ ht];simp;exact qa rfl (by simp[qp,f0,f1,f2,f3,ht]) rfl
  rw[qU ht];simp[hk];refine qg (qB _ _ _ _) ?_;rw[qU (show 0≤d.type∧d.type≤3 by omega)];simp[hk];have hmod:=qoq d.exps.length;by_cases hm:d.exps.length % 2=0
  case neg=>
   simp[hmod,hm,show ¬ ((d.exps.length:Int) % 2=0) by omega];exact qa rfl (by simp[qp,f0,f1,f2,f3,ht,hm]) rfl
  simp[hmod,hm,show ((d.exps.length:Int) % 2=0) by omega];refine qg (YA _ hO.formals.1 _) ?_;have hf:d.formals=[]:=qpP (by rw[zH] at f3;simpa using f3);simp[hf,Qb];exact qa rfl (by simp[qp,f0,f1,f2,f3,hf,ht,hm]) rfl
theorem qe4(d:De)(hs:d.ok)(hk:d.kind=3):∀S,Fn prog 182 [d.v] S (.bool (d.vOwn qb)):=by
 refine Pu.ib func182 ok182 (by simp[c182]) (by simp[V.under]) rfl ?_;have hO:=(De.ok_iff d).1 hs;rw[De.vOwn_3 qb d hk];simp[c182,hk];refine qg (qr _ _ _ _) ?_;cases f0:qH 1 1 d.names.length
 case false=>
  simp;exact qa rfl (by simp[qp,f0]) rfl
 simp;refine qg (qr _ _ _ _) ?_;cases f1:qH 1 (-1) d.exps.length
 case false=>
  simp;exact qa rfl (by simp[qp,f0,f1]) rfl
 simp;refine qg (qr _ _ _ _) ?_;cases f2:qH 0 0 d.body.length
 case false=>
  simp;exact qa rfl (by simp[qp,f0,f1,f2]) rfl
 simp;refine qg (qr _ _ _ _) ?_;cases f3:qH 0 0 d.formals.length
 case false=>
  simp;exact qa rfl (by simp[qp,f0,f1,f2,f3]) rfl
 simp;refine qg (yN _ hO.names.1 _) ?_;cases hl:d.names.all qb
 case false=>
  simp;exact qa rfl (by simp[qp,f0]) rfl
 simp;cases ho:d.own
 case true=>
  simp[ho];exact qa rfl (by simp[qp,f0,f1,f2,f3,ho]) rfl
 by_cases ht:d.type=0
 case neg=>
  simp[ho,hk,ht];exact qa rfl (by simp[qp,f0,f1,f2,f3,ho,ht]) rfl
 simp[ho,hk,ht];refine qg (qB _ _ _ _) ?_;simp[ho,hk,ht];refine qg (YA _ hO.formals.1 _) ?_;have hf:d.formals=[]:=qpP (by rw[zH] at f3;simpa using f3);simp[hf,Qb];exact qa rfl (by simp[qp,f0,f1,f2,f3,hf,ho,ht]) rfl
theorem qeB(d:De)(hs:d.ok)(hk:d.kind=4):∀S,Fn prog 182 [d.v] S (.bool (d.vOwn qb)):=by
 refine Pu.ib func182 ok182 (by simp[c182]) (by simp[V.under]) rfl ?_;have hO:=(De.ok_iff d).1 hs;rw[De.vOwn_4 qb d hk];simp[c182,hk];refine qg (qr _ _ _ _) ?_;cases f0:qH 1 1 d.names.length
 case false=>
  simp;exact qa rfl (by simp[qp,f0]) rfl
 simp;refine qg (qr _ _ _ _) ?_;cases f1:qH 0 0 d.exps.length
 case false=>
  simp;exact qa rfl (by simp[qp,f0,f1]) rfl
 simp;refine qg (qr _ _ _ _) ?_;cases f2:qH 1 1 d.body.length
 case false=>
  simp;exact qa rfl (by simp[qp,f0,f1,f2]) rfl
 simp;refine qg (qr _ _ _ _) ?_;cases f3:qH 0 8 d.formals.length
 case false=>
  simp;exact qa rfl (by simp[qp,f0,f1,f2,f3]) rfl
 simp;refine qg (yN _ hO.names.1 _) ?_;cases hl:d.names.all qb
 case false=>
  simp;exact qa rfl (by simp[qp,f0]) rfl
 simp;cases ho:d.own
 case true=>
  simp[ho];exact qa rfl (by simp[qp,f0,f1,f2,f3,ho]) rfl
 simp[ho,hk];refine qg (qB _ _ _ _) ?_;by_cases ht:0≤d.type∧d.type≤3
 case neg=>
  rw[qQ ht];simp;exact qa rfl (by simp[qp,f0,f1,f2,f3,ho,ht]) rfl
 rw[qU ht];simp[hk];refine qg (YA _ hO.formals.1 _) ?_;simp;exact qa rfl (by simp[qp,f0,f1,f2,f3,ho,ht]) rfl
theorem qdL(d:De)(hs:d.ok)(h:¬ (1≤d.kind∧d.kind≤4)):∀S,Fn prog 182 [d.v] S (.bool (d.vOwn qb)):=by
 refine Pu.ib func182 ok182 (by simp[c182]) (by simp[V.under]) rfl ?_;have hO:=(De.ok_iff d).1 hs;rw[De.vOwn_no qb d h];simp[c182,show ¬ d.kind=1 by omega,show ¬ d.kind=2 by omega,show ¬ d.kind=3 by omega,show ¬ d.kind=4 by omega];exact qa rfl rfl rfl
theorem qlp(d:De)(hs:d.ok):∀S,Fn prog 182 [d.v] S (.bool (d.vOwn qb)):=by
 by_cases h1:d.kind=1
 ·exact qfh d hs h1
 by_cases h2:d.kind=2
 ·exact qfK d hs h2
 by_cases h3:d.kind=3
 ·exact qe4 d hs h3
 by_cases h4:d.kind=4
 ·exact qeB d hs h4
 exact qdL d hs (by omega)
end
structure VJ(p:Pa)(U:St):Prop where
 t2:U[1]?=some (.arr [.bool false] 1 1)
 k:U[2]?=some (.arr [p.v] 25 1)
theorem VJ.push{p:Pa}{U:St}(h:VJ p U)(o:Ob):VJ p (U++[o]):=⟨gp h.t2,gp h.k⟩
theorem VJ.set{p:Pa}{U:St}(h:VJ p U){L:Nat}(o:Ob)(hL:3≤L):VJ p (U.set L o):=⟨gs h.t2 (by omega),gs h.k (by omega)⟩
def VV(p:Pa)(i:Nat):Prop:=∀q,q∈p.kids.take i→q.valid qb=true
def VD(p:Pa)(U:St):Prop:=U[1]?=some (.arr [.bool false] 1 1)∧p.valid qb=false
theorem VD.push{p:Pa}{U:St}(h:VD p U)(o:Ob):VD p (U++[o]):=⟨gp h.1,h.2⟩
theorem Env.keep_get{e:Env}{t:Nat}{v:V}:∀{ts:List Nat},t∈ts→e.get t=some v→(e.keep ts).get t=some v
 | [],h,_=>by simp at h
 | s::ts,h,hv=>by
  simp only[Env.keep];by_cases hs:s=t
  ·subst hs;rw[hv];simp[Env.get]
  ·have h':t∈ts:=by
    rcases qpJ.1 h with h| h
    ·exact absurd h.symm hs
    ·exact h
   split
   ·simp only[Env.get,if_neg hs];exact Env.keep_get h' hv
   ·exact Env.keep_get h' hv
noncomputable def qbC:C':=(.seq (.k [.j 29 25 1,.c 30 179 29]
 (.block 1 (.rf (.t 30) [31] (Qm Tryz.f151 0).1 (Qm Tryz.f151 0).2
  (.reg [.o 4 (.new zP),
   .s 25 4 31])
  (.block 2 (.k [.j 32 25 4,.c 33 151 32,.o 34 (.un .not (.t 33))]
   (.d 34 (.k [.n (.sto 1 (.t 2) (.c (.bool false)))] (.ret)) (.skip))))
  35 [31,4,32,33,34,2])))
 (.k [.n (.sto 1 (.t 2) (.c (.bool true)))] (.ret)))
theorem Zr:qbC=(.seq (.k [.j 29 25 1,.c 30 179 29]
 (.block 1 (.rf (.t 30) [31] (Qm Tryz.f151 0).1 (Qm Tryz.f151 0).2
  (.reg [.o 4 (.new zP),
   .s 25 4 31])
  (.block 2 (.k [.j 32 25 4,.c 33 151 32,.o 34 (.un .not (.t 33))]
   (.d 34 (.k [.n (.sto 1 (.t 2) (.c (.bool false)))] (.ret)) (.skip))))
  35 [31,4,32,33,34,2])))
 (.k [.n (.sto 1 (.t 2) (.c (.bool true)))] (.ret))):=rfl
theorem qjh:∀(k:Nat) (p:Pa),p.wt≤k→p.ok→∀S,Fn prog 151 [p.v] S (.bool (p.valid qb)):=by
 intro k
 induction k with
 | zero=>intro p h;exfalso;cases p with
  | st s=>cases s;simp[Pa.wt] at h
  | de s=>cases s;simp[Pa.wt] at h
  | el s=>cases s;simp[Pa.wt] at h
  | ex s=>cases s;simp[Pa.wt] at h
 | succ k ih=>
  intro p hw hp;refine Pu.ib func151 ok151 (by simp[c151]) (by simp) rfl ?_;have hve:=Pa.valid_eq qb p;have range:∀e:Env,p.vOwn qb=true→e.get 1=some (.ptr 0 0 0 1)→e.get 2=some (.ptr 1 0 0 1)→
    WP prog qbC
     (jR [.cell 2 none] 0 fun v U=>v=.bool (p.valid qb)∧U=[]) e [.arr [p.v] 25 1,.arr [.bool false] 1 1]:=by
   intro e hown g1 g2;simp only[qbC];simp[g1,ldS];refine qj (qfL p _) ?_;rintro v U ⟨rfl,rfl⟩;simp;have hkl:(p.kids.map fun q=>[q.v]).length=p.kids.length:=by simp
   refine qcS (k:=202) (fs:=[]) (cs:=[.ptr 2 0 0 1]) (by simp) (qa7 p hp 2) rfl rfl rfl (by simp) (fun x=>x=1) (by rintro x rfl;simp)
    (fun i U=>VJ p U∧VV p i) (VD p) (fun _ _=>False) ?_ ?_ ?_ ?_ (fun i U L o o' _ h hl=>⟨⟨gl h.1.t2 (by simp) hl,gl h.1.k (by simp) hl⟩,h.2⟩) (fun U L o o' _ h hl=>⟨gl h.1 (by simp) hl,h.2⟩) (fun id U L o o' _ h hl=>h.elim) ?_ ?_ ?_ ?_ ?_
   ·rintro i U ⟨h,_⟩;exact h.k
   ·rintro i U ⟨h,h1⟩;exact fun o=>⟨h.push o,h1⟩
   ·rintro U h;exact fun o=>h.push o
   ·rintro id U h;exact h.elim
   ·exact ⟨⟨rfl,rfl⟩,fun q hq=>by simp at hq⟩
   ·rintro i av hav U ⟨hj,hv⟩ hk hl;rw[qpt] at hav;obtain ⟨q,hq,rfl⟩:=qpq.1 hav;have hqk:q∈p.kids:=qpp hq;have hqw:=Pa.kid_lt hqk;generalize hke:Env.keep _ _=ke at hl ⊢;have g2':ke.get 2=some (.ptr 1 0 0 1):=by rw[←hke];exact Env.keep_get (by simp) (by simp[g2])
    clear hke;simp at hl;simp[QA,qM,stS,qi];refine QQ (gp hl) rfl ?_;have lU:=glt hl;have nU:U.length≠3:=by omega
    have vq:((U++[Ob.arr [q.v] 25 1]).set 3 (.loop { st:=.busy,pend:=none,ps:=[31],asg:=(Qm Tryz.f151 0).1,body:=(Qm Tryz.f151 0).2,e:=ke,N:=35 }))[U.length]?=some (.arr [q.v] 25 1):=gs (by simp) nU;have vL:((U++[Ob.arr [q.v] 25 1]).set 3 (.loop { st:=.busy,pend:=none,ps:=[31],asg:=(Qm Tryz.f151 0).1,body:=(Qm Tryz.f151 0).2,e:=ke,N:=35 }))[3]?=some (.loop _):=qpl (by simp;omega);have vj:=(hj.push (Ob.arr [q.v] 25 1)).set (L:=3) (.loop { st:=.busy,pend:=none,ps:=[31],asg:=(Qm Tryz.f151 0).1,body:=(Qm Tryz.f151 0).2,e:=ke,N:=35 }) (by omega);have vk:Kp (fun x=>x=1∨x=3) U ((U++[Ob.arr [q.v] 25 1]).set 3 (.loop { st:=.busy,pend:=none,ps:=[31],asg:=(Qm Tryz.f151 0).1,body:=(Qm Tryz.f151 0).2,e:=ke,N:=35 })):=((Kp.refl _ _).push _).set _ (.inl (.inr rfl));generalize (U++[Ob.arr [q.v] 25 1]).set 3 _=W at vq vL vj vk ⊢;simp[ldS,vq];refine qg (ih q (by omega) (Pa.kid_ok hp hqk) W) ?_
    cases hqv:q.valid qb with
    | true=>
     simp;refine jW ⟨rfl,rfl⟩ (.inr rfl) vL vk ⟨vj.set _ (by omega),?_⟩;intro r hr;rw[qpI,hq] at hr;rcases qpr.1 hr with hr|hr
     ·exact hv r hr
     ·simp at hr;subst hr;exact hqv
    | false=>
     simp[stS,zu,vj.t2,g2'];refine qbc (.inr rfl) (gs vL (by omega)) (vk.set _ (.inl (.inl rfl))) ⟨gs (qpl (glt vj.t2)) (by omega),?_⟩
     cases hh:p.valid qb with
     | false=>rfl
     | true=>rw[(Pa.valid_iff.1 hh).2 q hqk] at hqv;cases hqv
   ·rintro U ⟨hj,hv⟩ hk;rw[hkl] at hv;unfold VV at hv;rw[qp9] at hv;simp[stS,zu,hj.t2,g2];refine qa (vs:=[.bool true]) (by simp[ldS,g2,glt hj.t2]) ?_ rfl;rw[Pa.valid_iff.2 ⟨hown,hv⟩];rfl
   ·rintro U ⟨h1,h2⟩ hk;simp;refine qa (vs:=[.bool false]) (by simp[ldS,g2,h1]) ?_ rfl;rw[h2];rfl
   ·rintro id U h;exact h.elim
  have stop:p.vOwn qb=false→p.valid qb=false:=fun h=>by rw[hve,h];rfl
  cases p with
  | st s=>
   have hown:(Pa.st s).vOwn qb=s.vOwn qb:=rfl;simp only[c151,←Zr];simp[qM,ldS];simp only[Pa.v,Pa.kind,Pa.toS,Pa.toD,Pa.toE,Pa.toX];simp[ldS];refine qg (qlJ s hp _) ?_
   cases ho:s.vOwn qb with
   | false=>
    simp[stS,zu];refine qa rfl ?_ rfl;rw[stop (by rw[hown,ho])];rfl
   | true=>
    simp[hown,ho];exact range _ (hown.trans ho) (by simp) (by simp)
  | de d=>
   have hown:(Pa.de d).vOwn qb=d.vOwn qb:=rfl;simp only[c151,←Zr];simp[qM,ldS];simp only[Pa.v,Pa.kind,Pa.toS,Pa.toD,Pa.toE,Pa.toX];simp[ldS];refine qg (qlp d hp _) ?_
   cases ho:d.vOwn qb with
   | false=>
    simp[stS,zu];refine qa rfl ?_ rfl;rw[stop (by rw[hown,ho])];rfl
   | true=>
    simp[hown,ho];exact range _ (hown.trans ho) (by simp) (by simp)
  | el e=>
   have hown:(Pa.el e).vOwn qb=e.vOwn:=rfl;simp only[c151,←Zr];simp[qM,ldS];simp only[Pa.v,Pa.kind,Pa.toS,Pa.toD,Pa.toE,Pa.toX];simp[ldS];refine qg (qkY e _) ?_
   cases ho:e.vOwn with
   | false=>
    simp[stS,zu];refine qa rfl ?_ rfl;rw[stop (by rw[hown,ho])];rfl
   | true=>
    simp[hown,ho];exact range _ (hown.trans ho) (by simp) (by simp)
  | ex x=>
   have hown:(Pa.ex x).vOwn qb=x.vOwn qb:=rfl;simp only[c151,←Zr];simp[qM,ldS];simp only[Pa.v,Pa.kind,Pa.toS,Pa.toD,Pa.toE,Pa.toX];simp[ldS];refine qg (qi4 x hp _) ?_
   cases ho:x.vOwn qb with
   | false=>
    simp[stS,zu];refine qa rfl ?_ rfl;rw[stop (by rw[hown,ho])];rfl
   | true=>
    simp[hown,ho];exact range _ (hown.trans ho) (by simp) (by simp)
theorem qfr(p:Pa)(hp:p.ok):∀S,Fn prog 100 [p.v] S (.int .i64 (p.err qb)):=by
 refine Pu.ib func100 ok100 (by simp[c100]) (by simp) rfl ?_;simp[c100,qM,ldS];refine qj (qi1 p hp _) ?_;rintro v U ⟨⟨z,d,rfl,_⟩,rfl⟩;unfold Pa.err;by_cases hf:p.fits
 ·simp[hf,ldS];refine qg (qjh _ p (qpo _) hp _) ?_
  cases hv:p.valid qb with
  | true=>
   simp;exact qa rfl rfl rfl
  | false=>
   simp;exact qa rfl rfl rfl
 ·simp[hf,ldS];exact qa rfl rfl rfl
theorem qbZ(s:Sm)(hs:s.ok):∀S,Fn prog 56 [s.v] S (.int .i64 ((Pa.st s).err qb)):=by
 refine Pu.ib func56 ok56 (by simp[c56]) (by simp[V.under]) rfl ?_;simp[c56,qM,ldS];refine qg (qga s _) ?_;simp;refine qg (qfr (.st s) hs _) ?_;simp;exact qa rfl rfl rfl
theorem qih(s:Ex)(hs:s.ok):∀S,Fn prog 90 [s.v] S (.int .i64 ((Pa.ex s).err qb)):=by
 refine Pu.ib func90 ok90 (by simp[c90]) (by simp[V.under]) rfl ?_;simp[c90,qM,ldS];refine qg (qfS s _) ?_;simp;refine qg (qfr (.ex s) hs _) ?_;simp;exact qa rfl rfl rfl
end Go.Proofs.YtbifpocccfkhhaaGreatDoor

namespace Go.Proofs.YtbifpocccfkhhaaGreatDoor
open Go
@[simp] theorem uPa(l:List Pa):V.underL 0 (l.map Pa.v)=true:=qC fun x _=>Pa.v_under x
end Go.Proofs.YtbifpocccfkhhaaGreatDoor

namespace Go.Proofs.YtbifpocccfkhhaaGreatDoor
open Go
theorem zc{P:Program}{a b:C'}{Q:yr}{e:Env}{S:St}(M:Env→St→Prop)(h1:WP P a (Q3 M Q) e S)(h2:∀e S,M e S→WP P b Q e S):WP P (.seq a b) Q e S:=by
 rw[qcz];exact qnd M h1 h2
open Classical in
theorem qo1(f g:Fo):zh [.str f.name,.bool f.value,.int .i64 f.spec,.int .i64 f.type] [.str g.name,.bool g.value,.int .i64 g.spec,.int .i64 g.type] [(0,.s),(1,.b),(2,.i),(3,.i)]=some (decide (f=g)):=by
 by_cases h1:f.name=g.name
 ·by_cases h2:f.value=g.value
  ·by_cases h3:f.spec=g.spec
   ·by_cases h4:f.type=g.type
    ·have:f=g:=by cases f;cases g;simp at *;exact ⟨h1,h2,h3,h4⟩
     simp[zh,Qv,this]
    ·have hb:(f.type==g.type)=false:=by simpa using h4
     have:¬ f=g:=fun h=>h4 (by rw[h])
     simp[zh,Qv,h1,h2,h3,hb,this]
   ·have hb:(f.spec==g.spec)=false:=by simpa using h3
    have:¬ f=g:=fun h=>h3 (by rw[h])
    simp[zh,Qv,h1,h2,hb,this]
  ·have hb:(f.value==g.value)=false:=by simpa using h2
   have:¬ f=g:=fun h=>h2 (by rw[h])
   simp[zh,Qv,h1,hb,this]
 ·have hb:(f.name.data.toList==g.name.data.toList)=false:=by
   rw[beq_eq_false_iff_ne];intro hh;exact h1 (qqZ (Array.ext' hh))
  have:¬ f=g:=fun h=>h1 (by rw[h])
  simp[zh,Qv,hb,this]
end Go.Proofs.YtbifpocccfkhhaaGreatDoor





namespace Go.Proofs.YtbifpocccfkhhaaGreatDoor
open Go Go.Proofs.Tryz
set_option maxRecDepth 20000
noncomputable def c122:F':=⟨17,[.t 4],.k [.B 2 0,.B 3 1,.F 4] (.k [.f 5 0 2,.l 6 5,.f 7 0 3,.l 8 7,.b 9 .eql 6 8,.m 10 9,.v 11 10 true (.fa 1 (.t 2)),.M 12 10 true 11,.v 13 10 true (.fa 1 (.t 3)),.M 14 10 true 13,.v 15 10 true (.call (.f 123) [(.t 12),(.t 14)]),.y 16 10 15,.m 4 16] .ret)⟩
theorem ok122:okF f122 c122:=okI
noncomputable def c256:F':=⟨47,[.cell 6 (some 7)],.k [.B 4 1,.o 6 (.new zD)] (.k [.m 10 0,.m 11 2,.j 12 7 4,.c 13 272 12,.x 14 157 10 11 13,.m 7 14] (.k [.f 15 5 4,.l 16 15,.c 17 273 16,.m 8 17] (.seq (.k [.m 18 8,.L 19 18,.G 20 0] (.block 0 (.loop (.k [.b 21 .lss 20 19] (.seq (.d 21 .skip (.exit 0)) (.seq (.block 1 (.k [.m 22 20,.m 9 22] (.reg [.m 23 8,.m 24 9,.m 25 7,.m 26 8,.m 27 9,.i 28 4 26 27,.f 29 0 28,.l 30 29,.w 31 60 25 30,.h 32 31,.f 33 2 32,.l 34 33,.i 35 4 23 24,.f 36 0 35,.s 1 36 34]))) (.reg [.u 37 .add 20 1,.m 20 37]))))))) (.k [.m 38 8,.f 39 5 4,.s 1 39 38] (.k [.m 40 0,.f 41 6 4,.l 42 41,.m 43 7,.x 44 111 40 42 43,.f 45 6 4,.s 1 45 44] (.k [.j 46 7 4,.s 7 6 46] .ret))))))⟩
theorem ok256:okF f256 c256:=okI
noncomputable def c272:F':=⟨4,[.t 2],.k [.B 1 0,.a 2 .nilfn] (.k [.o 3 (.mkf 277 [] [(.t 1)]),.m 2 3] .ret)⟩
theorem ok272:okF f272 c272:=okI
noncomputable def c273:F':=⟨8,[.t 2],.k [.a 2 (.sl true [])] (.seq (.k [.m 3 0,.o 4 (.ex (.eqn false (.t 3)))] (.d 4 (.k [.a 2 (.sl true [])] .ret) .skip)) (.k [.o 5 (.bsl 4 []),.m 6 0,.o 7 (.app 4 40 (.t 5) (.t 6)),.m 2 7] .ret))⟩
theorem ok273:okF f273 c273:=okI
noncomputable def c277:F':=⟨18,[],.k [.f 5 5 1,.l 6 5,.L 7 6,.G 8 0] (.block 0 (.loop (.k [.b 9 .lss 8 7] (.seq (.d 9 .skip (.exit 0)) (.seq (.block 1 (.k [.i 10 4 6 8,.j 11 4 10,.o 4 (.new zF),.s 4 4 11] (.k [.m 12 0,.f 13 0 4,.l 14 13,.o 15 (.call (.t 12) [(.t 14)]),.o 16 (.un .not (.t 15))] (.d 16 .ret .skip)))) (.reg [.u 17 .add 8 1,.m 8 17]))))))⟩
theorem ok277:okF f277 c277:=okI
theorem Ex.ext'{x y:Ex}(a:x.kind=y.kind)(b:x.op=y.op)(c:x.n=y.n)(d:x.man=y.man∧x.exp=y.exp)(e:x.text=y.text)(f:x.args=y.args):x=y:=by
 obtain ⟨d,d'⟩:=d;cases x;cases y;simp only[Ex.kind,Ex.op,Ex.n,Ex.man,Ex.exp,Ex.text,Ex.args] at *;subst a b c d d' e f;rfl
theorem De.ext'{x y:De}(a:x.kind=y.kind)(b:x.own=y.own)(c:x.type=y.type)(d:x.names=y.names)(e:x.exps=y.exps)(f:x.formals=y.formals)(g:x.body=y.body):x=y:=by
 cases x;cases y;simp only[De.kind,De.own,De.type,De.names,De.exps,De.formals,De.body] at *;subst a b c d e f g;rfl
theorem Sm.ext'{x y:Sm}(a:x.elems=y.elems)(b:x.decls=y.decls)(c:x.labels=y.labels)(d:x.kind=y.kind)(e:x.text=y.text)(f:x.targets=y.targets)(g:x.exps=y.exps)(h:x.body=y.body):x=y:=by
 cases x;cases y;simp only[Sm.labels,Sm.kind,Sm.text,Sm.targets,Sm.exps,Sm.elems,Sm.decls,Sm.body] at *;subst a b c d e f g h;rfl
def qlh{α:Type}(l m:List α)(i:Nat):Prop:=∀j,j<i→l[j]?=m[j]?
theorem Zl{α:Type}{l m:List α}(hl:l.length=m.length)(h:qlh l m l.length):l=m:=by
 apply qqn;intro i;by_cases hi:i<l.length
 ·exact h i hi
 ·rw[qp5 (by omega),qp5 (by omega)]
open Classical in
theorem qeE(l m:List Bz)(hl:l.length≤B50):∀S,Fn prog 126 [.sl false (l.map .str),.sl false (m.map .str)] S (.bool (decide (l=m))):=by
 refine Pu.ib func126 ok126 (by simp[c126]) (by simp[V.under]) rfl ?_;unfold B50 at hl;by_cases hlen:l.length=m.length
 case neg=>
  have hne:¬ l=m:=fun h=>hlen (by rw[h])
  simp only[decide_eq_false hne];simp[c126,show ¬ ((l.length:Int)=m.length) by omega];exact qa rfl rfl rfl
 generalize hd:decide (l=m)=b;simp only[c126,C'.k];simp[hlen];refine qw (fun j e S'=>∃i:Nat,j=l.length - i∧i≤l.length∧qlh l m i∧
  e=[(13,.int .i64 i),(12,.int .i64 m.length),(0,.sl false (l.map .str)),(1,.sl false (m.map .str))]) l.length _ ?_ ⟨0,by simp,by omega,fun j hj=>by omega,rfl⟩ ?_
 ·repeat' first|exact Env.sub_nil _|refine Env.sub_cons (by simp[hlen]) ?_
 rintro j e S' ⟨i,rfl,hi,hq,rfl⟩;by_cases h:i<l.length
 ·have h':i<m.length:=by omega
  by_cases hx:l[i]=m[i]
  ·skip;simp[h,h',Zx,Yc,Qe,QN,hx,ze (n:=(i:Int)+1)];refine ⟨_,?_,_,?_,i+1,rfl,by omega,?_,rfl⟩
   ·omega
   ·exact Env.so (by simp)
   ·intro j hj;by_cases hji:j=i
    ·subst hji;simp[h,h',hx]
    ·exact hq j (by omega)
  ·skip;simp[h,h',Zx,Yc,Qe,QN,hx];refine qa rfl ?_ rfl;rw[←hd];have:¬ l=m:=fun hh=>hx (by subst hh;rfl)
   simp[qp,this]
 ·have:i=l.length:=by omega
  subst this;simp[hlen];refine qa rfl ?_ rfl;rw[←hd,decide_eq_true (Zl hlen hq)];rfl
open Classical in
theorem qjp(l m:List Fo)(hl:l.length≤B50):∀S,Fn prog 127 [.sl false (l.map Fo.v),.sl false (m.map Fo.v)] S (.bool (decide (l=m))):=by
 refine Pu.ib func127 ok127 (by simp[c127]) (by simp[V.under]) rfl ?_;unfold B50 at hl;by_cases hlen:l.length=m.length
 case neg=>
  have hne:¬ l=m:=fun h=>hlen (by rw[h])
  simp only[decide_eq_false hne];simp[c127,show ¬ ((l.length:Int)=m.length) by omega];exact qa rfl rfl rfl
 generalize hd:decide (l=m)=b;simp only[c127,C'.k];simp[hlen];refine qw (fun j e S'=>∃i:Nat,j=l.length - i∧i≤l.length∧qlh l m i∧
  e=[(13,.int .i64 i),(12,.int .i64 m.length),(0,.sl false (l.map Fo.v)),(1,.sl false (m.map Fo.v))]) l.length _ ?_ ⟨0,by simp,by omega,fun j hj=>by omega,rfl⟩ ?_
 ·repeat' first|exact Env.sub_nil _|refine Env.sub_cons (by simp[hlen]) ?_
 rintro j e S' ⟨i,rfl,hi,hq,rfl⟩;by_cases h:i<l.length
 ·have h':i<m.length:=by omega
  by_cases hx:l[i]=m[i]
  ·have hef:=qo1 l[i] m[i];rw[decide_eq_true hx] at hef;simp[h,h',qmD,evX,Fo.v,Qi,hef,Yc,Qe,QN,ze (n:=(i:Int)+1)];refine ⟨_,?_,_,?_,i+1,rfl,by omega,?_,rfl⟩
   ·omega
   ·exact Env.so (by simp)
   ·intro j hj;by_cases hji:j=i
    ·subst hji;simp[h,h',hx]
    ·exact hq j (by omega)
  ·have hef:=qo1 l[i] m[i];rw[decide_eq_false hx] at hef;simp[h,h',qmD,evX,Fo.v,Qi,hef,Yc,Qe,QN];refine qa rfl ?_ rfl;rw[←hd];have:¬ l=m:=fun hh=>hx (by subst hh;rfl)
   simp[qp,this]
 ·have:i=l.length:=by omega
  subst this;simp[hlen];refine qa rfl ?_ rfl;rw[←hd,decide_eq_true (Zl hlen hq)];rfl
open Classical in
theorem qfW(l m:List Ex)(hl:l.length≤B50)(g:Nat)(hg:∀x,x∈l→∀y S,Fn prog g [Ex.v x,Ex.v y] S (.bool (decide (x=y)))):∀S,Fn prog 165 [.sl false (l.map Ex.v),.sl false (m.map Ex.v),.fn (.func g) [] []] S (.bool (decide (l=m))):=by
 refine Pu.intro (R:=fun v=>v=.bool (decide (l=m))) func165 ok165 (by simp[c165]) (by simp[V.under,V.underL]) (by rintro v rfl;rfl) ?_;unfold B50 at hl;by_cases hlen:l.length=m.length
 case neg=>
  have hne:¬ l=m:=fun h=>hlen (by rw[h])
  simp only[decide_eq_false hne];simp[c165,show ¬ ((l.length:Int)=m.length) by omega];exact qa rfl rfl rfl
 generalize hd:decide (l=m)=b;simp only[c165,C'.k];simp[hlen];refine qw (fun j e S'=>∃i:Nat,j=l.length - i∧i≤l.length∧qlh l m i∧
  e=[(17,.int .i64 i),(16,.int .i64 m.length),(15,.sl false (l.map Ex.v)),(1,.sl false (m.map Ex.v)),(2,.fn (.func g) [] [])]) l.length _ ?_ ⟨0,by simp,by omega,fun j hj=>by omega,rfl⟩ ?_
 ·repeat' first|exact Env.sub_nil _|refine Env.sub_cons (by simp[hlen]) ?_
 rintro j e S' ⟨i,rfl,hi,hq,rfl⟩;by_cases h:i<l.length
 ·have h':i<m.length:=by omega
  simp[h',qks,qM,ldS,stS,qi,h];refine qg (hg l[i] (qpz h) m[i] _) ?_;by_cases hx:l[i]=m[i]
  ·rw[decide_eq_true hx];simp[ze (n:=(i:Int)+1)];refine ⟨_,?_,_,?_,i+1,rfl,by omega,?_,rfl⟩
   ·omega
   ·exact Env.so (by simp)
   ·intro j hj;by_cases hji:j=i
    ·subst hji;simp[h,h',hx]
    ·exact hq j (by omega)
  ·rw[decide_eq_false hx];simp;refine qa rfl ?_ rfl;rw[←hd];have:¬ l=m:=fun hh=>hx (by subst hh;rfl)
   simp[qp,this]
 ·have:i=l.length:=by omega
  subst this;simp[hlen];refine qa rfl ?_ rfl;rw[←hd,decide_eq_true (Zl hlen hq)];rfl
open Classical in
theorem qlz(l m:List Sm)(hl:l.length≤B50)(g:Nat)(hg:∀x,x∈l→∀y S,Fn prog g [Sm.v x,Sm.v y] S (.bool (decide (x=y)))):∀S,Fn prog 119 [.sl false (l.map Sm.v),.sl false (m.map Sm.v),.fn (.func g) [] []] S (.bool (decide (l=m))):=by
 refine Pu.intro (R:=fun v=>v=.bool (decide (l=m))) func119 ok119 (by simp[c119]) (by simp[V.under,V.underL]) (by rintro v rfl;rfl) ?_;unfold B50 at hl;by_cases hlen:l.length=m.length
 case neg=>
  have hne:¬ l=m:=fun h=>hlen (by rw[h])
  simp only[decide_eq_false hne];simp[c119,show ¬ ((l.length:Int)=m.length) by omega];exact qa rfl rfl rfl
 generalize hd:decide (l=m)=b;simp only[c119,C'.k];simp[hlen];refine qw (fun j e S'=>∃i:Nat,j=l.length - i∧i≤l.length∧qlh l m i∧
  e=[(17,.int .i64 i),(16,.int .i64 m.length),(15,.sl false (l.map Sm.v)),(1,.sl false (m.map Sm.v)),(2,.fn (.func g) [] [])]) l.length _ ?_ ⟨0,by simp,by omega,fun j hj=>by omega,rfl⟩ ?_
 ·repeat' first|exact Env.sub_nil _|refine Env.sub_cons (by simp[hlen]) ?_
 rintro j e S' ⟨i,rfl,hi,hq,rfl⟩;by_cases h:i<l.length
 ·have h':i<m.length:=by omega
  simp[h',qiH,qM,ldS,stS,qi,h];refine qg (hg l[i] (qpz h) m[i] _) ?_;by_cases hx:l[i]=m[i]
  ·rw[decide_eq_true hx];simp[ze (n:=(i:Int)+1)];refine ⟨_,?_,_,?_,i+1,rfl,by omega,?_,rfl⟩
   ·omega
   ·exact Env.so (by simp)
   ·intro j hj;by_cases hji:j=i
    ·subst hji;simp[h,h',hx]
    ·exact hq j (by omega)
  ·rw[decide_eq_false hx];simp;refine qa rfl ?_ rfl;rw[←hd];have:¬ l=m:=fun hh=>hx (by subst hh;rfl)
   simp[qp,this]
 ·have:i=l.length:=by omega
  subst this;simp[hlen];refine qa rfl ?_ rfl;rw[←hd,decide_eq_true (Zl hlen hq)];rfl
open Classical in
theorem qkI(l m:List El)(hl:l.length≤B50)(g:Nat)(hg:∀x,x∈l→∀y S,Fn prog g [El.v x,El.v y] S (.bool (decide (x=y)))):∀S,Fn prog 121 [.sl false (l.map El.v),.sl false (m.map El.v),.fn (.func g) [] []] S (.bool (decide (l=m))):=by
 refine Pu.intro (R:=fun v=>v=.bool (decide (l=m))) func121 ok121 (by simp[c121]) (by simp[V.under,V.underL]) (by rintro v rfl;rfl) ?_;unfold B50 at hl;by_cases hlen:l.length=m.length
 case neg=>
  have hne:¬ l=m:=fun h=>hlen (by rw[h])
  simp only[decide_eq_false hne];simp[c121,show ¬ ((l.length:Int)=m.length) by omega];exact qa rfl rfl rfl
 generalize hd:decide (l=m)=b;simp only[c121,C'.k];simp[hlen];refine qw (fun j e S'=>∃i:Nat,j=l.length - i∧i≤l.length∧qlh l m i∧
  e=[(17,.int .i64 i),(16,.int .i64 m.length),(15,.sl false (l.map El.v)),(1,.sl false (m.map El.v)),(2,.fn (.func g) [] [])]) l.length _ ?_ ⟨0,by simp,by omega,fun j hj=>by omega,rfl⟩ ?_
 ·repeat' first|exact Env.sub_nil _|refine Env.sub_cons (by simp[hlen]) ?_
 rintro j e S' ⟨i,rfl,hi,hq,rfl⟩;by_cases h:i<l.length
 ·have h':i<m.length:=by omega
  simp[h',qnG,qM,ldS,stS,qi,h];refine qg (hg l[i] (qpz h) m[i] _) ?_;by_cases hx:l[i]=m[i]
  ·rw[decide_eq_true hx];simp[ze (n:=(i:Int)+1)];refine ⟨_,?_,_,?_,i+1,rfl,by omega,?_,rfl⟩
   ·omega
   ·exact Env.so (by simp)
   ·intro j hj;by_cases hji:j=i
    ·subst hji;simp[h,h',hx]
    ·exact hq j (by omega)
  ·rw[decide_eq_false hx];simp;refine qa rfl ?_ rfl;rw[←hd];have:¬ l=m:=fun hh=>hx (by subst hh;rfl)
   simp[qp,this]
 ·have:i=l.length:=by omega
  subst this;simp[hlen];refine qa rfl ?_ rfl;rw[←hd,decide_eq_true (Zl hlen hq)];rfl
open Classical in
theorem qki(l m:List De)(hl:l.length≤B50)(g:Nat)(hg:∀x,x∈l→∀y S,Fn prog g [De.v x,De.v y] S (.bool (decide (x=y)))):∀S,Fn prog 124 [.sl false (l.map De.v),.sl false (m.map De.v),.fn (.func g) [] []] S (.bool (decide (l=m))):=by
 refine Pu.intro (R:=fun v=>v=.bool (decide (l=m))) func124 ok124 (by simp[c124]) (by simp[V.under,V.underL]) (by rintro v rfl;rfl) ?_;unfold B50 at hl;by_cases hlen:l.length=m.length
 case neg=>
  have hne:¬ l=m:=fun h=>hlen (by rw[h])
  simp only[decide_eq_false hne];simp[c124,show ¬ ((l.length:Int)=m.length) by omega];exact qa rfl rfl rfl
 generalize hd:decide (l=m)=b;simp only[c124,C'.k];simp[hlen];refine qw (fun j e S'=>∃i:Nat,j=l.length - i∧i≤l.length∧qlh l m i∧
  e=[(17,.int .i64 i),(16,.int .i64 m.length),(15,.sl false (l.map De.v)),(1,.sl false (m.map De.v)),(2,.fn (.func g) [] [])]) l.length _ ?_ ⟨0,by simp,by omega,fun j hj=>by omega,rfl⟩ ?_
 ·repeat' first|exact Env.sub_nil _|refine Env.sub_cons (by simp[hlen]) ?_
 rintro j e S' ⟨i,rfl,hi,hq,rfl⟩;by_cases h:i<l.length
 ·have h':i<m.length:=by omega
  simp[h',ql9,qM,ldS,stS,qi,h];refine qg (hg l[i] (qpz h) m[i] _) ?_;by_cases hx:l[i]=m[i]
  ·rw[decide_eq_true hx];simp[ze (n:=(i:Int)+1)];refine ⟨_,?_,_,?_,i+1,rfl,by omega,?_,rfl⟩
   ·omega
   ·exact Env.so (by simp)
   ·intro j hj;by_cases hji:j=i
    ·subst hji;simp[h,h',hx]
    ·exact hq j (by omega)
  ·rw[decide_eq_false hx];simp;refine qa rfl ?_ rfl;rw[←hd];have:¬ l=m:=fun hh=>hx (by subst hh;rfl)
   simp[qp,this]
 ·have:i=l.length:=by omega
  subst this;simp[hlen];refine qa rfl ?_ rfl;rw[←hd,decide_eq_true (Zl hlen hq)];rfl
open Classical in
theorem qbD:∀k:Nat,(∀x:Ex,SizeOf.sizeOf x≤k→x.ok→∀y S,Fn prog 166 [x.v,y.v] S (.bool (decide (x=y)))):=by
 intro k
 induction k with
 | zero=>intro x h;exfalso;cases x;simp at h
 | succ k ih=>
  intro x hx hok y;refine Pu.ib func166 ok166 (by simp[c166]) (by simp[V.under]) rfl ?_;have hargs:=Ex.ok_args hok
  have ih':∀z,z∈x.args→∀y S,Fn prog 166 [Ex.v z,Ex.v y] S (.bool (decide (z=y))):=fun z hz=>ih z (by
   have:=qp7 hz;cases x;simp only[Ex.args] at *;simp at hx;omega) (Ex.okL_mem hargs.2 z hz)
  have h123:∀S,Fn prog 123 [.sl false (x.args.map Ex.v),.sl false (y.args.map Ex.v)] S (.bool (decide (x.args=y.args))):=by
   refine Pu.ib func123 ok123 (by simp[c123]) (by simp[V.under]) rfl ?_;simp[c123];refine qg (qfW x.args y.args hargs.1 166 ih' _) ?_;simp;exact qa rfl rfl rfl
  generalize hr:decide (x=y)=r;simp[c166,qM,ldS];by_cases a1:x.kind=y.kind
  case neg=>
   simp[ldS,yl,eqV,evX,zj,a1];exact qa rfl (by rw[←hr,decide_eq_false (fun hh=>a1 (by subst hh;first|rfl|exact ⟨rfl,rfl⟩))];rfl) rfl
  by_cases a2:x.op=y.op
  case neg=>
   simp[ldS,yl,eqV,evX,zj,a1,a2];exact qa rfl (by rw[←hr,decide_eq_false (fun hh=>a2 (by subst hh;first|rfl|exact ⟨rfl,rfl⟩))];rfl) rfl
  by_cases a3:x.n=y.n
  case neg=>
   simp[ldS,yl,eqV,evX,zj,a1,a2,a3];exact qa rfl (by rw[←hr,decide_eq_false (fun hh=>a3 (by subst hh;first|rfl|exact ⟨rfl,rfl⟩))];rfl) rfl
  by_cases a4:x.man=y.man∧x.exp=y.exp
  case neg=>
   simp[ldS,yl,eqV,evX,zj,a1,a2,a3,a4];exact qa rfl (by rw[←hr,decide_eq_false (fun hh=>a4 (by subst hh;first|rfl|exact ⟨rfl,rfl⟩))];rfl) rfl
  by_cases a5:x.text=y.text
  case neg=>
   simp[ldS,yl,eqV,evX,zj,a1,a2,a3,a4,a5];exact qa rfl (by rw[←hr,decide_eq_false (fun hh=>a5 (by subst hh;first|rfl|exact ⟨rfl,rfl⟩))];rfl) rfl
  simp[ldS,yl,eqV,evX,zj,a1,a2,a3,a4,a5];refine qg (h123 _) ?_;by_cases a6:x.args=y.args
  case neg=>
   rw[decide_eq_false a6];simp;exact qa rfl (by rw[←hr,decide_eq_false (fun hh=>a6 (by rw[hh]))];rfl) rfl
  rw[decide_eq_true a6];simp[ldS,yl,eqV,evX,zj];exact qa rfl (by rw[←hr,decide_eq_true (Ex.ext' a1 a2 a3 a4 a5 a6)];rfl) rfl
open Classical in
theorem qkK(x:Ex)(h:x.ok)(y:Ex):∀S,Fn prog 166 [x.v,y.v] S (.bool (decide (x=y))):=qbD _ x (qpo _) h y
open Classical in
theorem qad(l m:List Ex)(hl:l.length≤B50)(hok:Ex.okL l):∀S,Fn prog 123 [.sl false (l.map Ex.v),.sl false (m.map Ex.v)] S (.bool (decide (l=m))):=by
 refine Pu.ib func123 ok123 (by simp[c123]) (by simp[V.under]) rfl ?_;simp[c123];refine qg (qfW l m hl 166 (fun x hx y S=>qkK x (Ex.okL_mem hok x hx) y S) _) ?_;simp;exact qa rfl rfl rfl
open Classical in
theorem qjr(x:El)(h:x.ok)(y:El):∀S,Fn prog 122 [x.v,y.v] S (.bool (decide (x=y))):=by
 refine Pu.ib func122 ok122 (by simp[c122]) (by simp[V.under]) rfl ?_;generalize hr:decide (x=y)=r;simp[c122,qM,ldS];by_cases a1:x.kind=y.kind
 case neg=>
  simp[ldS,yl,eqV,evX,zj,a1];exact qa rfl (by rw[←hr,decide_eq_false (fun hh=>a1 (by subst hh;first|rfl|exact ⟨rfl,rfl⟩))];rfl) rfl
 simp[ldS,yl,eqV,evX,zj,a1];refine qg (qad x.exps y.exps h.1 h.2 _) ?_;by_cases a2:x.exps=y.exps
 case neg=>
  rw[decide_eq_false a2];simp;exact qa rfl (by rw[←hr,decide_eq_false (fun hh=>a2 (by rw[hh]))];rfl) rfl
 rw[decide_eq_true a2];simp[ldS,yl,eqV,evX,zj];exact qa rfl (by rw[←hr,decide_eq_true (by cases x;cases y;simp only at *;subst a1 a2;rfl)];rfl) rfl
open Classical in
theorem JK{l m:List Sm}(hl:l.length≤B50)(h:∀x,x∈l→∀y S,Fn prog 120 [Sm.v x,Sm.v y] S (.bool (decide (x=y)))):∀S,Fn prog 69 [.sl false (l.map Sm.v),.sl false (m.map Sm.v)] S (.bool (decide (l=m))):=by
 refine Pu.ib func69 ok69 (by simp[c69]) (by simp[V.under]) rfl ?_;simp[c69];refine qg (qlz l m hl 120 h _) ?_;simp;exact qa rfl rfl rfl
open Classical in
theorem qbv:∀k:Nat,(∀s:Sm,SizeOf.sizeOf s≤k→s.ok→∀t S,Fn prog 120 [s.v,t.v] S (.bool (decide (s=t))))∧(∀d:De,SizeOf.sizeOf d≤k→d.ok→∀e S,Fn prog 125 [d.v,e.v] S (.bool (decide (d=e)))):=by
 intro k
 induction k with
 | zero=>exact ⟨fun s h=>by exfalso;cases s;simp at h,fun s h=>by exfalso;cases s;simp at h⟩
 | succ k ih=>
  refine ⟨fun s hs hok t=>?_,fun d hd hok e=>?_⟩
  ·have O:=(Sm.ok_iff s).1 hok
   have ihb:∀z,z∈s.body→∀y S,Fn prog 120 [Sm.v z,Sm.v y] S (.bool (decide (z=y))):=fun z hz=>ih.1 z (by
    have:=qp7 hz;cases s;simp only[Sm.body] at *;simp at hs;omega) (Sm.okL_mem O.body.2 z hz)
   have ihd:∀z,z∈s.decls→∀y S,Fn prog 125 [De.v z,De.v y] S (.bool (decide (z=y))):=fun z hz=>ih.2 z (by
    have:=qp7 hz;cases s;simp only[Sm.decls] at *;simp at hs;omega) (De.okL_mem O.decls.2 z hz)
   refine Pu.ib func120 ok120 (by simp[c120]) (by simp[V.under]) rfl ?_;generalize hr:decide (s=t)=r;simp[c120,qM,ldS];refine qg (qkI s.elems t.elems O.elems.1 122 (fun x hx y S=>qjr x (O.elems.2 x hx) y S) _) ?_;simp[ldS];refine qg (qki s.decls t.decls O.decls.1 125 ihd _) ?_;by_cases a1:s.elems=t.elems
   case neg=>
    rw[decide_eq_false a1];simp;exact qa rfl (by rw[←hr,decide_eq_false (fun hh=>a1 (by rw[hh]))];rfl) rfl
   rw[decide_eq_true a1];by_cases a2:s.decls=t.decls
   case neg=>
    rw[decide_eq_false a2];simp;exact qa rfl (by rw[←hr,decide_eq_false (fun hh=>a2 (by rw[hh]))];rfl) rfl
   rw[decide_eq_true a2];simp[ldS,yl,eqV,evX,zj];refine qg (qeE s.labels t.labels O.labels.1 _) ?_;by_cases a3:s.labels=t.labels
   case neg=>
    rw[decide_eq_false a3];simp;exact qa rfl (by rw[←hr,decide_eq_false (fun hh=>a3 (by rw[hh]))];rfl) rfl
   rw[decide_eq_true a3];by_cases a4:s.kind=t.kind
   case neg=>
    simp[ldS,yl,eqV,evX,zj,a4];exact qa rfl (by rw[←hr,decide_eq_false (fun hh=>a4 (by subst hh;first|rfl|exact ⟨rfl,rfl⟩))];rfl) rfl
   by_cases a5:s.text=t.text
   case neg=>
    simp[ldS,yl,eqV,evX,zj,a4,a5];exact qa rfl (by rw[←hr,decide_eq_false (fun hh=>a5 (by subst hh;first|rfl|exact ⟨rfl,rfl⟩))];rfl) rfl
   simp[ldS,yl,eqV,evX,zj,a4,a5];refine qg (qad s.targets t.targets O.targets.1 O.targets.2 _) ?_;by_cases a6:s.targets=t.targets
   case neg=>
    rw[decide_eq_false a6];simp;exact qa rfl (by rw[←hr,decide_eq_false (fun hh=>a6 (by rw[hh]))];rfl) rfl
   rw[decide_eq_true a6];simp[ldS,yl,eqV,evX,zj];refine qg (qad s.exps t.exps O.exps.1 O.exps.2 _) ?_;by_cases a7:s.exps=t.exps
   case neg=>
    rw[decide_eq_false a7];simp;exact qa rfl (by rw[←hr,decide_eq_false (fun hh=>a7 (by rw[hh]))];rfl) rfl
   rw[decide_eq_true a7];simp[ldS,yl,eqV,evX,zj];refine qg (JK O.body.1 ihb _) ?_;by_cases a8:s.body=t.body
   case neg=>
    rw[decide_eq_false a8];simp;exact qa rfl (by rw[←hr,decide_eq_false (fun hh=>a8 (by rw[hh]))];rfl) rfl
   rw[decide_eq_true a8];simp[ldS,yl,eqV,evX,zj];exact qa rfl (by rw[←hr,decide_eq_true (Sm.ext' a1 a2 a3 a4 a5 a6 a7 a8)];rfl) rfl
  ·have O:=(De.ok_iff d).1 hok
   have ihb:∀z,z∈d.body→∀y S,Fn prog 120 [Sm.v z,Sm.v y] S (.bool (decide (z=y))):=fun z hz=>ih.1 z (by
    have:=qp7 hz;cases d;simp only[De.body] at *;simp at hd;omega) (Sm.okL_mem O.body.2 z hz)
   refine Pu.ib func125 ok125 (by simp[c125]) (by simp[V.under]) rfl ?_;generalize hr:decide (d=e)=r;simp[c125,qM,ldS];by_cases a1:d.kind=e.kind
   case neg=>
    simp[ldS,yl,eqV,evX,zj,a1];exact qa rfl (by rw[←hr,decide_eq_false (fun hh=>a1 (by subst hh;first|rfl|exact ⟨rfl,rfl⟩))];rfl) rfl
   by_cases a2:d.own=e.own
   case neg=>
    simp[ldS,yl,eqV,evX,zj,a1,show (d.own==e.own)=false by simpa using a2];exact qa rfl (by rw[←hr,decide_eq_false (fun hh=>a2 (by subst hh;first|rfl|exact ⟨rfl,rfl⟩))];rfl) rfl
   by_cases a3:d.type=e.type
   case neg=>
    simp[ldS,yl,eqV,evX,zj,a1,a2,a3];exact qa rfl (by rw[←hr,decide_eq_false (fun hh=>a3 (by subst hh;first|rfl|exact ⟨rfl,rfl⟩))];rfl) rfl
   simp[ldS,yl,eqV,evX,zj,a1,a2,a3];refine qg (qeE d.names e.names O.names.1 _) ?_;by_cases a4:d.names=e.names
   case neg=>
    rw[decide_eq_false a4];simp;exact qa rfl (by rw[←hr,decide_eq_false (fun hh=>a4 (by rw[hh]))];rfl) rfl
   rw[decide_eq_true a4];simp[ldS,yl,eqV,evX,zj];refine qg (qad d.exps e.exps O.exps.1 O.exps.2 _) ?_;by_cases a5:d.exps=e.exps
   case neg=>
    rw[decide_eq_false a5];simp;exact qa rfl (by rw[←hr,decide_eq_false (fun hh=>a5 (by rw[hh]))];rfl) rfl
   rw[decide_eq_true a5];simp[ldS,yl,eqV,evX,zj];refine qg (qjp d.formals e.formals O.formals.1 _) ?_;by_cases a6:d.formals=e.formals
   case neg=>
    rw[decide_eq_false a6];simp;exact qa rfl (by rw[←hr,decide_eq_false (fun hh=>a6 (by rw[hh]))];rfl) rfl
   rw[decide_eq_true a6];simp[ldS,yl,eqV,evX,zj];refine qg (JK O.body.1 ihb _) ?_;by_cases a7:d.body=e.body
   case neg=>
    rw[decide_eq_false a7];simp;exact qa rfl (by rw[←hr,decide_eq_false (fun hh=>a7 (by rw[hh]))];rfl) rfl
   rw[decide_eq_true a7];simp[ldS,yl,eqV,evX,zj];exact qa rfl (by rw[←hr,decide_eq_true (De.ext' a1 a2 a3 a4 a5 a6 a7)];rfl) rfl
open Classical in
theorem qmg(l m:List Sm)(hl:l.length≤B50)(hok:Sm.okL l):∀S,Fn prog 69 [.sl false (l.map Sm.v),.sl false (m.map Sm.v)] S (.bool (decide (l=m))):=
 JK hl fun x hx y S=>(qbv _).1 x (qpo _) (Sm.okL_mem hok x hx) y S
structure Pw where
 H:Type
 f:Nat→Bz→Bz
 nm:Option (Ex→Scs→Bool→Ex)
 cl:Option (Bz→Scs→Bz)
 ent:H→Nat→Bz→H
 nmH:H→Ex→Scs→Bool→H
 clH:H→Bz→Scs→H
def ZO(p:Pw)(sc:Scs)(x:Bz):Bz:=match sc.at x with
 | some k=>p.f k x
 | none=>x
def enters(p:Pw)(h:p.H)(s:Sco):p.H:=s.foldl (fun h e=>p.ent h e.2 e.1) h
def Pw.nmE(p:Pw)(sc:Scs)(tg:Bool)(x:Ex):Ex:=if Ex.named x.kind then match p.nm with
  | none=>.mk x.kind x.op x.n x.man x.exp (ZO p sc x.text) x.args
  | some g=>g x sc tg
 else x
def Pw.nmS(p:Pw)(sc:Scs)(tg:Bool)(h:p.H)(x:Ex):p.H:=if Ex.named x.kind then match p.nm with
  | none=>h
  | some _=>p.nmH h x sc tg
 else h
mutual
def Ex.wr(p:Pw)(sc:Scs)(tg:Bool):Ex→Ex
 | .mk k o n m e t a=>p.nmE sc tg (.mk k o n m e t (Ex.wrl p sc false a))
def Ex.wrl(p:Pw)(sc:Scs)(tg:Bool):List Ex→List Ex
 | []=>[]
 | x::l=>Ex.wr p sc tg x::Ex.wrl p sc tg l
end
theorem Ex.wrl_map(p:Pw)(sc:Scs)(tg:Bool):∀l,Ex.wrl p sc tg l=l.map (Ex.wr p sc tg)
 | []=>rfl
 | x::l=>by rw[Ex.wrl,Ex.wrl_map p sc tg l];rfl
mutual
def Ex.hs(p:Pw)(sc:Scs)(tg:Bool)(h:p.H):Ex→p.H
 | .mk k o n m e t a=>p.nmS sc tg (Ex.hsl p sc false h a) (.mk k o n m e t (Ex.wrl p sc false a))
def Ex.hsl(p:Pw)(sc:Scs)(tg:Bool)(h:p.H):List Ex→p.H
 | []=>h
 | x::l=>Ex.hsl p sc tg (Ex.hs p sc tg h x) l
end
theorem Ex.hsl_append(p:Pw)(sc:Scs)(tg:Bool):∀(l m:List Ex) (h:p.H),Ex.hsl p sc tg h (l++m)=Ex.hsl p sc tg (Ex.hsl p sc tg h l) m
 | [],m,h=>rfl
 | x::l,m,h=>by simp only[qpO,Ex.hsl];exact Ex.hsl_append p sc tg l m _
def El.wr(p:Pw)(sc:Scs)(e:El):El:=⟨e.kind,Ex.wrl p sc false e.exps⟩
def El.hsl(p:Pw)(sc:Scs)(h:p.H)(l:List El):p.H:=l.foldl (fun h e=>Ex.hsl p sc false h e.exps) h
def Fo.wr(p:Pw)(sc:Scs)(x:Fo):Fo:=⟨ZO p sc x.name,x.value,x.spec,x.type⟩
def Pw.clE(p:Pw)(sc:Scs)(k:Int)(t:Bz):Bz:=if k=6 then match p.cl with
  | none=>ZO p sc t
  | some c=>c t sc
 else t
def Pw.clS(p:Pw)(sc:Scs)(k:Int)(h:p.H)(t:Bz):p.H:=if k=6 then match p.cl with
  | none=>h
  | some _=>p.clH h t sc
 else h
mutual
def Sm.wr(p:Pw)(sc:Scs)(n:Nat):Sm→Sm
 | .mk l k t g e h d b=>
  if k=7 then
   .mk (l.map (ZO p sc)) k t (Ex.wrl p sc true g) e h (De.wrl p (qd (qe d b) n::sc) sc (n+(qd (qe d b) n).length) d) (Sm.wrl p (qd (qe d b) n::sc) (n+(qd (qe d b) n).length+De.nbl d) b)
  else if k=8 then
   .mk (l.map (ZO p sc)) k t (Ex.wrl p sc true g) e h d (Sm.wrl p (qd (qk b) n::sc) (n+(qd (qk b) n).length) b)
  else .mk (l.map (ZO p sc)) k (p.clE sc k t) (Ex.wrl p sc true g) (Ex.wrl p sc false e) (h.map (El.wr p sc)) d (Sm.wr1 p sc n b)
def De.wr(p:Pw)(own sc:Scs)(n:Nat):De→De
 | .mk k o t nm e fo b=>
  if k=4 then .mk k o t (nm.map (ZO p own)) (Ex.wrl p own false e) (fo.map (Fo.wr p (qd (fo.map Fo.name) n::own))) (Sm.wr1 p (qd (fo.map Fo.name) n::own) (n+(qd (fo.map Fo.name) n).length) b)
  else .mk k o t (nm.map (ZO p own)) (Ex.wrl p (if k=2 then sc else own) false e) fo b
def De.wrl(p:Pw)(own sc:Scs)(n:Nat):List De→List De
 | []=>[]
 | x::l=>De.wr p own sc n x::De.wrl p own sc (n+De.nb x) l
def Sm.wrl(p:Pw)(sc:Scs)(n:Nat):List Sm→List Sm
 | []=>[]
 | x::l=>Sm.wr p sc n x::Sm.wrl p sc (n+Sm.nb x) l
def Sm.wr1(p:Pw)(sc:Scs)(n:Nat):List Sm→List Sm
 | []=>[]
 | x::l=>Sm.wr p (qd x.labels n::sc) (n+(qd x.labels n).length) x::Sm.wr1 p sc (n+(qd x.labels n).length+Sm.nb x) l
end
mutual
def Sm.hs(p:Pw)(sc:Scs)(n:Nat)(h:p.H):Sm→p.H
 | .mk _ k t g e el d b=>
  if k=7 then
   Sm.hsl p (qd (qe d b) n::sc) (n+(qd (qe d b) n).length+De.nbl d) (De.hsl p (qd (qe d b) n::sc) sc (n+(qd (qe d b) n).length) (enters p (Ex.hsl p sc true h g) (qd (qe d b) n)) d) b
  else if k=8 then
   Sm.hsl p (qd (qk b) n::sc) (n+(qd (qk b) n).length) (enters p (Ex.hsl p sc true h g) (qd (qk b) n)) b
  else p.clS sc k (Sm.hs1 p sc n (El.hsl p sc (Ex.hsl p sc false (Ex.hsl p sc true h g) e) el) b) t
def De.hs(p:Pw)(own sc:Scs)(n:Nat)(h:p.H):De→p.H
 | .mk k _ _ _ e fo b=>
  if k=4 then Sm.hs1 p (qd (fo.map Fo.name) n::own) (n+(qd (fo.map Fo.name) n).length) (enters p (Ex.hsl p own false h e) (qd (fo.map Fo.name) n)) b
  else Ex.hsl p (if k=2 then sc else own) false h e
def De.hsl(p:Pw)(own sc:Scs)(n:Nat)(h:p.H):List De→p.H
 | []=>h
 | x::l=>De.hsl p own sc (n+De.nb x) (De.hs p own sc n h x) l
def Sm.hsl(p:Pw)(sc:Scs)(n:Nat)(h:p.H):List Sm→p.H
 | []=>h
 | x::l=>Sm.hsl p sc (n+Sm.nb x) (Sm.hs p sc n h x) l
def Sm.hs1(p:Pw)(sc:Scs)(n:Nat)(h:p.H):List Sm→p.H
 | []=>h
 | x::l=>Sm.hs1 p sc (n+(qd x.labels n).length+Sm.nb x) (Sm.hs p (qd x.labels n::sc) (n+(qd x.labels n).length) (enters p h (qd x.labels n)) x) l
end
def Sm.wholeR(p:Pw)(s:Sm):Sm:=s.wr p [qd s.labels 0] (qd s.labels 0).length
def Sm.wholeH(p:Pw)(h:p.H)(s:Sm):p.H:=s.hs p [qd s.labels 0] (qd s.labels 0).length (enters p h (qd s.labels 0))
theorem Sm.nbl_append:∀(l m:List Sm),Sm.nbl (l++m)=Sm.nbl l+Sm.nbl m
 | [],m=>by simp[Sm.nbl]
 | x::l,m=>by simp only[qpO,Sm.nbl,Sm.nbl_append l m];omega
theorem De.nbl_append:∀(l m:List De),De.nbl (l++m)=De.nbl l+De.nbl m
 | [],m=>by simp[De.nbl]
 | x::l,m=>by simp only[qpO,De.nbl,De.nbl_append l m];omega
theorem Sm.nb1_append:∀(l m:List Sm),Sm.nb1 (l++m)=Sm.nb1 l+Sm.nb1 m
 | [],m=>by simp[Sm.nb1]
 | x::l,m=>by simp only[qpO,Sm.nb1,Sm.nb1_append l m];omega
theorem Sm.wrl_append(p:Pw)(sc:Scs):∀(l m:List Sm) (n:Nat),Sm.wrl p sc n (l++m)=Sm.wrl p sc n l++Sm.wrl p sc (n+Sm.nbl l) m
 | [],m,n=>by simp[Sm.wrl,Sm.nbl]
 | x::l,m,n=>by simp only[qpO,Sm.wrl,Sm.nbl,Sm.wrl_append p sc l m,qp3]
theorem De.wrl_append(p:Pw)(own sc:Scs):∀(l m:List De) (n:Nat),De.wrl p own sc n (l++m)=De.wrl p own sc n l++De.wrl p own sc (n+De.nbl l) m
 | [],m,n=>by simp[De.wrl,De.nbl]
 | x::l,m,n=>by simp only[qpO,De.wrl,De.nbl,De.wrl_append p own sc l m,qp3]
theorem Sm.hsl_append(p:Pw)(sc:Scs):∀(l m:List Sm) (n:Nat) (h:p.H),Sm.hsl p sc n h (l++m)=Sm.hsl p sc (n+Sm.nbl l) (Sm.hsl p sc n h l) m
 | [],m,n,h=>by simp[Sm.hsl,Sm.nbl]
 | x::l,m,n,h=>by simp only[qpO,Sm.hsl,Sm.nbl,Sm.hsl_append p sc l m,qp3]
theorem De.hsl_append(p:Pw)(own sc:Scs):∀(l m:List De) (n:Nat) (h:p.H),De.hsl p own sc n h (l++m)=De.hsl p own sc (n+De.nbl l) (De.hsl p own sc n h l) m
 | [],m,n,h=>by simp[De.hsl,De.nbl]
 | x::l,m,n,h=>by simp only[qpO,De.hsl,De.nbl,De.hsl_append p own sc l m,qp3]
theorem yY(m:Nat):∀(l:List Bz) (s s':Sco) (n n':Nat),s.map (·.1)=s'.map (·.1)→(binds l s n).map (·.1)=(binds l s' n').map (·.1)
 | [],s,s',n,n',h=>h
 | x::l,s,s',n,n',h=>by
  have at_eq:∀(s s':Sco),s.map (·.1)=s'.map (·.1)→(s.at x).isSome=(s'.at x).isSome:=by
   intro s
   induction s with
   | nil=>intro s' h;cases s' with
    | nil=>rfl
    | cons e s'=>simp at h
   | cons e s ih=>
    intro s' h
    cases s' with
    | nil=>simp at h
    | cons e' s'=>
     simp only[qpv,List.cons.injEq] at h;have:=ih s' h.2;simp only[Sco.at,List.find?_cons,h.1] at this ⊢;by_cases hx:e'.1=x
     ·simp[hx]
     ·simp only[decide_eq_false hx];exact this
  simp only[binds];rw[at_eq s s' h];split
  ·exact yY m l s s' n n' h
  ·exact yY m l _ _ _ _ (by simp[h])
theorem qx(l:List Bz)(n n':Nat):(qd l n).length=(qd l n').length:=by
 have:=congrArg List.length (yY 0 l [] [] n n' rfl);rw[qps,qps] at this;exact this
structure Kg(F:Np)(S:St)(F':Np)(U:St):Prop where
 k:Kp F S U
 g:∀l,F' l→F l∨S.length≤l
theorem Kg.refl(F:Np)(S:St):Kg F S F S:=⟨Kp.refl _ _,fun _ h=>.inl h⟩
theorem Kg.trans{F G H:Np}{S T U:St}(h:Kg F S G T)(g:Kg G T H U):Kg F S H U:=
 ⟨⟨qpV h.k.len g.k.len,fun l hl hn=>by
  rw[g.k.get l (qpT hl h.k.len) fun hh=>(h.g l hh).elim hn (by omega)];exact h.k.get l hl hn⟩,fun l hh=>(g.g l hh).elim (h.g l) fun hl=>.inr (qpV h.k.len hl)⟩
theorem Kg.push{F G:Np}{S U:St}(h:Kg F S G U)(os:List Ob):Kg F S G (U++os):=⟨h.k.push os,h.g⟩
theorem Kg.set{F G:Np}{S U:St}(h:Kg F S G U){l:Nat}(o:Ob)(hl:F l∨S.length≤l):Kg F S G (U.set l o):=⟨h.k.set o hl,h.g⟩
theorem Kg.off{F G:Np}{S U:St}(h:Kg F S G U){l:Nat}(hl:l<S.length)(hf:¬ F l):¬ G l:=fun hg=>(h.g l hg).elim hf (by omega)
theorem Kg.with{F G:Np}{S U:St}(h:Kg F S G U)(L:Nat)(hl:L<S.length):Kg (fun x=>F x∨x=L) S (fun x=>G x∨x=L) U:=⟨h.k.mono fun _ _ h=>.inl h,fun l hh=>hh.elim (fun a=>(h.g l a).imp .inl id) fun e=>.inl (.inr e)⟩
def RG(F0:Np)(U0:St)(L:Nat)(i0:LI)(J1 Dr:Np→St→Prop)(De:Nat→Np→St→Prop):V→St→Prop:=fun v U=>∃F,Kg (fun x=>F0 x∨x=L) U0 (fun x=>F x∨x=L) U∧
 ((v=.bool true∧J1 F U∧U[L]?=some (.loop i0))∨(v=.bool false∧Dr F U∧U[L]?=some (.loop { i0 with st:=.done,pend:=some .ret }))∨
  ∃id,v=.bool false∧De id F U∧U[L]?=some (.loop { i0 with st:=.done,pend:=some (.exit id) }))
theorem kN{F0 F:Np}{U0:St}{L:Nat}{i0:LI}{J1 Dr:Np→St→Prop}{De:Nat→Np→St→Prop}{e:Env}{U:St}(hi:i0.st=.ready∧i0.pend=none)(h:U[L]?=some (.loop { i0 with st:=.busy }))(k:Kg (fun x=>F0 x∨x=L) U0 (fun x=>F x∨x=L) U)(g:J1 F (U.set L (.loop i0))):Ja L (RG F0 U0 L i0 J1 Dr De) .normal e U:=by
 have hlt:=(qpi.1 h).1;have:({ i0 with st:=.ready,pend:=none }:LI)=i0:=by cases i0;simp only at hi;simp[hi.1,hi.2]
 refine ⟨_,h,F,k.set _ (.inl (.inr rfl)),.inl ⟨rfl,?_,?_⟩⟩
 ·simp only[this];exact g
 ·simp only[this];rw[qpl hlt]
theorem qlR{F0 F:Np}{U0:St}{L:Nat}{i0:LI}{J1 Dr:Np→St→Prop}{De:Nat→Np→St→Prop}{e:Env}{U:St}(h:U[L]?=some (.loop { i0 with st:=.busy }))(k:Kg (fun x=>F0 x∨x=L) U0 (fun x=>F x∨x=L) U)(g:Dr F (U.set L (.loop { i0 with st:=.done,pend:=some .ret }))):Ja L (RG F0 U0 L i0 J1 Dr De) .ret e U:=by
 have hlt:=(qpi.1 h).1;exact ⟨_,h,F,k.set _ (.inl (.inr rfl)),.inr (.inl ⟨rfl,g,by rw[qpl hlt]⟩)⟩
def qao(P:Program)(k:Nat)(fs cs:List V)(xs:List (List V))(cap:St→Prop):Prop:=
 ∀(S:St) (l:Nat) (J:Nat→Np→St→Prop) (D:Np→St→Prop) (F0:Np),(∀i F U,J i F U→∀x,F x→x<U.length)→(∀i F U,J i F U→cap U)→(∀i F U o,J i F U→J i F (U++[o]))→(∀F U o,D F U→D F (U++[o]))→
  (∀i F U L o o',S.length≤L→J i F U→U[L]?=some (.loop o)→J i F (U.set L (.loop o')))→(∀F U L o o',S.length≤L→D F U→U[L]?=some (.loop o)→D F (U.set L (.loop o')))→
  (∀(i:Nat) (a:List V),xs[i]?=some a→∀F U,J i F U→Kg F0 S F U→zV P l a U (fun v U'=>∃F',Kg F U F' U'∧((v=.bool true∧J (i+1) F' U')∨(v=.bool false∧D F' U'))))→J 0 F0 S→
  qt P k (fs++[.yld l]++cs) S (fun _ U=>∃F,Kg F0 S F U∧(J xs.length F U∨D F U))
theorem Kg.unloop{F G:Np}{S U:St}{o o':Ob}(h:Kg (fun x=>F x∨x=S.length) (S++[o]) (fun x=>G x∨x=S.length) U):Kg F S G (U.set S.length o'):=
 ⟨h.k.unloop,fun l hl=>(h.g l (.inl hl)).elim (fun a=>a.imp id (by omega)) fun a=>.inr (by simp at a;omega)⟩
theorem qaX{P:Program}{g:Opd}{ps:List Nat}{asg body:Code}{ca cb:C'}{N:Nat}{ts:List Nat}{Q:yr}{e:Env}{S:St}{k:Nat}{fs cs:List V}{xs:List (List V)}{cap:St→Prop}
  (hg:g.ev e=some (.fn (.func k) fs cs)) (hy:qao P k fs cs xs cap) (na:ca.noRf=true) (nb:cb.noRf=true) (hps:ps.all (fun p=>decide (p<N))=true) (hlen:∀a,a∈xs→a.length=ps.length)
  (F0:Np) (J:Nat→Np→St→Prop) (Dr:Np→St→Prop) (De:Nat→Np→St→Prop) (hB:∀i F U,J i F U→∀x,F x→x<U.length) (hcap:∀i F U,J i F U→cap U)
  (hJ:∀i F U,J i F U→∀o,J i F (U++[o])) (hDr:∀F U,Dr F U→∀o,Dr F (U++[o])) (hDe:∀id F U,De id F U→∀o,De id F (U++[o]))
  (hJl:∀i F U L o o',S.length≤L→J i F U→U[L]?=some (.loop o)→J i F (U.set L (.loop o'))) (hDl:∀F U L o o',S.length≤L→Dr F U→U[L]?=some (.loop o)→Dr F (U.set L (.loop o'))) (hDel:∀id F U L o o',S.length≤L→De id F U→U[L]?=some (.loop o)→De id F (U.set L (.loop o')))
  (h0:J 0 F0 (S++[.loop ⟨.ready,none,ps,asg,body,e.keep ts,N⟩]))
  (hr:∀(i:Nat) (a:List V),xs[i]?=some a→∀F U,J i F U→Kg (fun x=>F0 x∨x=S.length) (S++[.loop ⟨.ready,none,ps,asg,body,e.keep ts,N⟩]) (fun x=>F x∨x=S.length) U→U[S.length]?=some (.loop ⟨.ready,none,ps,asg,body,e.keep ts,N⟩)→
   WP P ca (qaC P S.length cb (RG F U S.length ⟨.ready,none,ps,asg,body,e.keep ts,N⟩ (J (i+1)) Dr De)) (QA ps a (e.keep ts)) U)
  (hn:∀F U,J xs.length F U→Kg F0 S F U→Q .normal e U) (hret:∀F U,Dr F U→Kg F0 S F U→Q .ret e U) (hexit:∀id F U,De id F U→Kg F0 S F U→Q (.exit id) e U):
  WP P (.rf g ps asg body ca cb N ts) Q e S:=by
 intro hca hcb;rw[hg];refine ⟨_,hy (S++[.loop ⟨.ready,none,ps,asg,body,e.keep ts,N⟩]) S.length (fun i G U=>∃F,G=(fun x=>F x∨x=S.length)∧J i F U∧U[S.length]?=some (.loop ⟨.ready,none,ps,asg,body,e.keep ts,N⟩))
  (fun G U=>∃F,G=(fun x=>F x∨x=S.length)∧((Dr F U∧U[S.length]?=some (.loop ⟨.done,some .ret,ps,asg,body,e.keep ts,N⟩))∨∃id,De id F U∧U[S.length]?=some (.loop ⟨.done,some (.exit id),ps,asg,body,e.keep ts,N⟩)))
  (fun x=>F0 x∨x=S.length) ?_ (fun i G U ⟨F,_,h,_⟩=>hcap i F U h) (fun i G U o ⟨F,h1,h2,h3⟩=>⟨F,h1,hJ i F U h2 o,?_⟩) ?_ ?_ ?_ ?_ ⟨F0,rfl,h0,by simp⟩,?_⟩
 ·rintro i G U ⟨F,rfl,h,h3⟩ x (hx|rfl)
  ·exact hB i F U h x hx
  ·exact (qpi.1 h3).1
 ·rw[qpk (qpi.1 h3).1];exact h3
 ·rintro G U o ⟨F,rfl,⟨h1,h2⟩|⟨id,h1,h2⟩⟩
  ·exact ⟨F,rfl,.inl ⟨hDr F U h1 o,by rw[qpk (qpi.1 h2).1];exact h2⟩⟩
  ·exact ⟨F,rfl,.inr ⟨id,hDe id F U h1 o,by rw[qpk (qpi.1 h2).1];exact h2⟩⟩
 ·rintro i G U L o o' hL ⟨F,rfl,h1,h2⟩ h3;simp at hL;exact ⟨F,rfl,hJl i F U L o o' (by omega) h1 h3,by rw[qpm (by omega)];exact h2⟩
 ·rintro G U L o o' hL ⟨F,rfl,⟨h1,h2⟩|⟨id,h1,h2⟩⟩ h3
  ·simp at hL;exact ⟨F,rfl,.inl ⟨hDl F U L o o' (by omega) h1 h3,by rw[qpm (by omega)];exact h2⟩⟩
  ·simp at hL;exact ⟨F,rfl,.inr ⟨id,hDel id F U L o o' (by omega) h1 h3,by rw[qpm (by omega)];exact h2⟩⟩
 ·rintro i a ha G U ⟨F,rfl,hj,hl⟩ hk;refine zV.mono' (zV.intro hl hca hcb rfl na nb ?_ hps (hr i a ha F U hj hk hl)) ?_
  ·exact hlen _ (qpp ha)
  ·rintro v U' ⟨F',hk',⟨rfl,h1,h2⟩|⟨rfl,h1,h2⟩|⟨id,rfl,h1,h2⟩⟩
   ·exact ⟨_,hk',.inl ⟨rfl,F',rfl,h1,h2⟩⟩
   ·exact ⟨_,hk',.inr ⟨rfl,F',rfl,.inl ⟨h1,h2⟩⟩⟩
   ·exact ⟨_,hk',.inr ⟨rfl,F',rfl,.inr ⟨id,h1,h2⟩⟩⟩
 ·rintro r U ⟨G,hk,⟨F,rfl,h1,h2⟩|⟨F,rfl,⟨h1,h2⟩|⟨id,h1,h2⟩⟩⟩
  ·exact ⟨_,h2,by simp,hn F _ (hJl _ F U _ _ _ (qpo _) h1 h2) hk.unloop⟩
  ·exact ⟨_,h2,by simp,hret F _ (hDl F U _ _ _ (qpo _) h1 h2) hk.unloop⟩
  ·exact ⟨_,h2,by simp,hexit id F _ (hDel id F U _ _ _ (qpo _) h1 h2) hk.unloop⟩
abbrev Sct:=List (Bz×Nat×Nat)
def Sct.sco(t:Sct):Sco:=t.map fun e=>(e.1,e.2.1)
def qd5(e:Bz×Nat×Nat):V×V:=(.str e.1,.ptr e.2.2 0 0 1)
def plc(x:Bz)(k:Nat)(y:Bz):Ob:=.arr [.agg [.int .i64 k,.str x,.str y]] 3 1
def ScR(p:Pw)(X:Np)(S:St):V→List Sct→Prop
 | v,[]=>v=.nilp
 | v,t::r=>∃l lo lm v' bs ck,v=.ptr l 0 0 1∧(¬ X l∧¬ X lo∧¬ X lm)∧S[l]?=some (.arr [.agg [.ptr lo 0 0 1,.map lm]] 2 1)∧S[lo]?=some (.arr [.agg [v']] 1 1)∧S[lm]?=some (.map (t.map qd5) bs ck)∧
  (∀e,e∈t→¬ X e.2.2∧S[e.2.2]?=some (plc e.1 e.2.1 (p.f e.2.1 e.1)))∧ScR p X S v' r
def Scx(ts:List Sct):Scs:=ts.map Sct.sco
def ZP:Sct→Bz→Option (Nat×Nat)
 | [],_=>none
 | e::t,x=>if e.1=x then some e.2 else ZP t x
def fnd:List Sct→Bz→Option (Nat×Nat)
 | [],_=>none
 | t::r,x=>match ZP t x with
  | some p=>some p
  | none=>fnd r x
def YD(ts:List Sct)(x:Bz):V:=match fnd ts x with
 | some p=>.ptr p.2 0 0 1
 | none=>.nilp
theorem kJ:∀(t:Sct) (x:Bz),Sco.at t.sco x=(ZP t x).map (·.1)
 | [],_=>rfl
 | e::t,x=>by
  have ih:=kJ t x;simp only[Sco.at,Sct.sco,qpv,List.find?_cons,ZP] at *;by_cases h:e.1=x
  ·simp[h]
  ·simp only[decide_eq_false h,if_neg h];exact ih
theorem Jf:∀(ts:List Sct) (x:Bz),(Scx ts).at x=(fnd ts x).map (·.1)
 | [],_=>rfl
 | t::r,x=>by
  have ih:=Jf r x;simp only[Scx,qpv,Scs.at,fnd] at *;rw[kJ]
  cases ZP t x with
  | none=>exact ih
  | some p=>rfl
theorem qaA:∀{t:Sct} {x:Bz} {p:Nat×Nat},ZP t x=some p→(x,p.1,p.2)∈t
 | e::t,x,p,h=>by
  simp only[ZP] at h;split at h
  ·rename_i hx;cases h;subst hx;simp
  ·exact qqc _ (qaA h)
theorem ScR.fnd_get{p:Pw}{X:Np}{S:St}:∀{ts:List Sct} {v:V} {x:Bz} {q:Nat×Nat},ScR p X S v ts→fnd ts x=some q→S[q.2]?=some (plc x q.1 (p.f q.1 x))
 | t::r,v,x,q,⟨l,lo,lm,v',bs,ck,_,_,_,_,_,h5,h6⟩,hf=>by
  simp only[fnd] at hf;split at hf
  ·rename_i q hq;cases hf;exact (h5 _ (qaA hq)).2
  ·exact ScR.fnd_get h6 hf
theorem ZM(x:Bz):∀(t:Sct) (i:Nat),∃j,zr .str (.str x) (t.map qd5) i=some ((ZP t x).map fun p=>(j,.ptr p.2 0 0 1))
 | [],i=>⟨0,rfl⟩
 | e::t,i=>by
  simp only[qpv,qd5,zr,YG,ZP];by_cases h:x=e.1
  ·rw[show (x.data.toList==e.1.data.toList)=true by rw[h];simp,if_pos h.symm];exact ⟨i,rfl⟩
  ·rw[show (x.data.toList==e.1.data.toList)=false by
    rw[beq_eq_false_iff_ne];intro hh;exact h (qqZ (Array.ext' hh)),if_neg (Ne.symm h)]
   exact ZM x t (i+1)
theorem qfO{S:St}{lm:Nat}{t:Sct}{bs:List Nat}{ck:Nat}(x:Bz)(h:S[lm]?=some (.map (t.map qd5) bs ck)):
  qbk S .str .nilp true (.map lm) (.str x)=some (.tup [(match ZP t x with|some p=>.ptr p.2 0 0 1|none=>.nilp),.bool (ZP t x).isSome]):=by
 obtain ⟨j,hj⟩:=ZM x t 0;unfold qbk;rw[if_pos (by rfl)];simp only[qa4,h,hj];cases ZP t x <;> rfl
theorem JU{p:Pw}{X:Np}{S:St}{ts:List Sct}{v:V}(h:ScR p X S v ts)(x:Bz):Fn prog 60 [v,.str x] S (YD ts x):=by
 refine qt.ib func60 ok60 ?_;generalize hr:YD ts x=r;simp only[c60,C'.k];simp only[qcA,qcz,qf2,Jb,qcf];refine qw (fun j e S'=>∃(ts':List Sct) (v':V),j=ts'.length∧ScR p X S v' ts'∧YD ts' x=r∧S'=S∧e=[(0,v'),(1,.str x)]) ts.length _ ?_ ⟨ts,v,rfl,h,hr,rfl,rfl⟩ ?_
 ·exact Env.so (by simp)
 rintro j e S' ⟨ts',v',rfl,h',hr',rfl,rfl⟩
 cases ts' with
 | nil=>
  have h':v'=.nilp:=h';subst h';have:r=.nilp:=by rw[←hr'];rfl
  subst this;simp[yl,eqV,jh];exact qf rfl ⟨rfl,rfl⟩
 | cons t r'=>
  obtain ⟨l,lo,lm,v'',bs,ck,rfl,_,h2,h3,h4,h5,h6⟩:=h';have hl:=qfO x h4;simp[yl,eqV,zQ,ldS,h2,evX,hl]
  cases hk:ZP t x with
  | some p=>
   have:r=.ptr p.2 0 0 1:=by rw[←hr'];simp[YD,fnd,hk]
   subst this;simp[jh];exact qf rfl ⟨rfl,rfl⟩
  | none=>
   simp[yl,eqV,zQ,ldS,h2,h3];refine ⟨_,?_,_,?_,r',rfl,v'',h6,?_,rfl⟩
   ·simp
   ·exact Env.so (by simp)
   ·rw[←hr'];simp[YD,fnd,hk]
theorem ScR.mono{p:Pw}{X X':Np}{S U:St}(hk:Kp X S U)(hX:∀l,X' l→X l∨S.length≤l):∀{ts:List Sct} {v:V},ScR p X S v ts→ScR p X' U v ts
 | [],_,h=>h
 | t::r,v,⟨l,lo,lm,v',bs,ck,h1,⟨x1,x2,x3⟩,h2,h3,h4,h5,h6⟩=>by
  have no:∀{l:Nat} {o:Ob},S[l]?=some o→¬ X l→¬ X' l:=fun ho hn hx=>(hX _ hx).elim hn fun hh=>by have:=(qpi.1 ho).1;omega
  exact ⟨l,lo,lm,v',bs,ck,h1,⟨no h2 x1,no h3 x2,no h4 x3⟩,hk.at h2 x1,hk.at h3 x2,hk.at h4 x3,fun e he=>⟨no (h5 e he).2 (h5 e he).1,hk.at (h5 e he).2 (h5 e he).1⟩,ScR.mono hk hX h6⟩
theorem ScR.sub{p:Pw}{X X':Np}{S:St}{v:V}{ts:List Sct}(h:ScR p X S v ts)(hX:∀l,X' l→X l):ScR p X' S v ts:=h.mono (Kp.refl _ _) fun l hl=>.inl (hX l hl)
theorem ScR.more{p:Pw}{X X':Np}{S:St}{v:V}{ts:List Sct}(h:ScR p X S v ts)(hX:∀l,X' l→X l∨S.length≤l):ScR p X' S v ts:=h.mono (Kp.refl _ _) hX
structure Cb extends Pw where
 fe:V
 fn:V
 fc:V
 I:H→Np→Np→St→Prop
 cn:H→Np
 lim:Nat
def wkr(c:Cb)(n:Nat):Ob:=.arr [.agg [.int .i64 n,c.fe,c.fn,c.fc]] 4 1
def grow(S:St)(F F':Np):Prop:=∀l,F' l→F l∨S.length≤l
theorem grow.refl(S:St)(F:Np):grow S F F:=fun _ h=>.inl h
theorem grow.trans{S T:St}{F G K:Np}(h:grow S F G)(g:grow T G K)(hl:S.length≤T.length):grow S F K:=fun l hk=>(g l hk).elim (h l) fun hh=>.inr (by omega)
structure Wk(c:Cb)(w n:Nat)(h:c.H)(F D:Np)(S:St):Prop where
 tw:S[w]?=some (wkr c n)
 st:c.I h F D S
 nF:¬ F w
 nD:¬ D w
 cn:c.cn h n
structure Stp(w:Nat)(F D:Np)(S:St)(F' D':Np)(U:St):Prop where
 k:Kp (fun l=>l=w∨F l) S U
 gF:grow S F F'
 gD:grow S D D'
theorem Stp.refl(w:Nat)(F D:Np)(S:St):Stp w F D S F D S:=⟨Kp.refl _ _,grow.refl _ _,grow.refl _ _⟩
theorem Stp.trans{w:Nat}{F D F1 D1 F2 D2:Np}{S T U:St}(h:Stp w F D S F1 D1 T)(g:Stp w F1 D1 T F2 D2 U):Stp w F D S F2 D2 U:=
 ⟨⟨qpV h.k.len g.k.len,fun l hl hn=>by
  rw[g.k.get l (qpT hl h.k.len) fun hh=>hn (hh.elim .inl fun hh=>(h.gF l hh).elim .inr fun hh=>by omega)];exact h.k.get l hl hn⟩,h.gF.trans g.gF h.k.len,h.gD.trans g.gD h.k.len⟩
structure Cb.Ok(c:Cb):Prop where
 lim:c.lim≤100001
 lt:∀{h F D S},c.I h F D S→∀l,F l∨D l→l<S.length
 fr:∀{h F D S U M},c.I h F D S→Kp M S U→(∀l,M l→l<S.length→¬ F l∧¬ D l)→c.I h F D U
 lp:∀{h F D S},c.I h F D S→∀l o,S[l]?=some (.loop o)→¬ F l∧¬ D l
 ce:∀{h n} x,c.cn h n→c.cn (c.ent h n x) (n+1)
 cm:∀{h n} x sc tg,c.cn h n→c.cn (c.nmH h x sc tg) n
 cc:∀{h n} x sc,c.cn h n→c.cn (c.clH h x sc) n
 real:∀{h F D S},c.I h F D S→∀h',∃F' D' U,c.I h' F' D' U∧Kp F S U∧grow S F F'∧grow S D D'
 en:(c.fe=.nilfn∧(∀k x,c.f k x=x)∧∀h k x,c.ent h k x=h)∨∃g cs,c.fe=.fn (.func g) [] cs∧∀(U:St) (p k:Nat) (x:Bz) (h:c.H) (F D:Np),U[p]?=some (plc x k x)→¬ F p→¬ D p→k<c.lim→c.cn h k→c.I h F D U→
  qt prog g ([.ptr p 0 0 1]++cs) U (fun _ U'=>∃F' D',c.I (c.ent h k x) F' D' U'∧U'[p]?=some (plc x k (c.f k x))∧Kp (fun l=>l=p∨F l) U U'∧grow U F F'∧∀l,D' l→D l∨l=p∨U.length≤l)
 nm:match c.nm with
  | none=>c.fn=.nilfn
  | some g=>∃k cs,c.fn=.fn (.func k) [] cs∧∀(U:St) (x:Ex) (v:V) (ts:List Sct) (tg:Bool) (w:Nat) (h:c.H) (F D:Np),ScR c.toPw (fun l=>l=w∨F l) U v ts→c.I h F D U→
   qt prog k ([x.v,v,.bool tg]++cs) U (fun r U'=>r=(g x (Scx ts) tg).v∧∃F' D',c.I (c.nmH h x (Scx ts) tg) F' D' U'∧Kp F U U'∧grow U F F'∧grow U D D')
 cl:match c.cl with
  | none=>c.fc=.nilfn
  | some g=>∃k cs,c.fc=.fn (.func k) [] cs∧∀(U:St) (x:Bz) (v:V) (ts:List Sct) (w:Nat) (h:c.H) (F D:Np),ScR c.toPw (fun l=>l=w∨F l) U v ts→c.I h F D U→
   qt prog k ([.str x,v]++cs) U (fun r U'=>r=.str (g x (Scx ts))∧∃F' D',c.I (c.clH h x (Scx ts)) F' D' U'∧Kp F U U'∧grow U F F'∧grow U D D')
theorem Wk.push{c:Cb}(ok:c.Ok){w n:Nat}{h:c.H}{F D:Np}{S:St}(k:Wk c w n h F D S)(os:List Ob):Wk c w n h F D (S++os):=
 ⟨by rw[qpk (qpi.1 k.tw).1];exact k.tw,ok.fr (M:=fun _=>False) k.st ((Kp.refl _ _).push _) (fun _ h=>h.elim),k.nF,k.nD,k.cn⟩
theorem Wk.set{c:Cb}(ok:c.Ok){w n:Nat}{h:c.H}{F D:Np}{S:St}(k:Wk c w n h F D S){l:Nat}(o:Ob)(hw:l≠w)(hF:¬ F l)(hD:¬ D l):Wk c w n h F D (S.set l o):=
 ⟨by rw[qpm hw];exact k.tw,ok.fr (M:=fun x=>x=l) k.st ((Kp.refl _ _).set _ (.inl rfl)) (fun x hx _=>by rw[hx];exact ⟨hF,hD⟩),k.nF,k.nD,k.cn⟩
theorem Wk.out{c:Cb}(ok:c.Ok){w n:Nat}{h:c.H}{F D:Np}{S:St}(k:Wk c w n h F D S){l:Nat}(hl:S.length≤l):l≠w∧¬ F l∧¬ D l:=
 ⟨by rintro rfl;have:=(qpi.1 k.tw).1;omega,fun hf=>by have:=ok.lt k.st l (.inl hf);omega,fun hf=>by have:=ok.lt k.st l (.inr hf);omega⟩
def Off(w:Nat)(F D:Np)(l:Nat):Prop:=l≠w∧¬ F l∧¬ D l
theorem Off.next{w:Nat}{F D F' D':Np}{S U:St}{l:Nat}(h:Off w F D l)(hl:l<S.length)(s:Stp w F D S F' D' U):Off w F' D' l:=
 ⟨h.1,fun hf=>(s.gF l hf).elim h.2.1 (by omega),fun hf=>(s.gD l hf).elim h.2.2 (by omega)⟩
theorem Stp.at{w:Nat}{F D F' D':Np}{S U:St}{l:Nat}{o:Ob}(s:Stp w F D S F' D' U)(h:Off w F D l)(ho:S[l]?=some o):U[l]?=some o:=s.k.at ho fun hh=>hh.elim h.1 h.2.1
theorem Stp.push{w:Nat}{F D F' D':Np}{S U:St}(s:Stp w F D S F' D' U)(os:List Ob):Stp w F D S F' D' (U++os):=⟨s.k.push os,s.gF,s.gD⟩
theorem Stp.set{w:Nat}{F D F' D':Np}{S U:St}(s:Stp w F D S F' D' U){l:Nat}(o:Ob)(hl:S.length≤l):Stp w F D S F' D' (U.set l o):=⟨s.k.set o (.inr hl),s.gF,s.gD⟩
theorem Stp.ofPush{w:Nat}{F D F' D':Np}{S U:St}{os:List Ob}(s:Stp w F D (S++os) F' D' U):Stp w F D S F' D' U:=
 ⟨s.k.ofPush,fun l h=>(s.gF l h).imp id fun hh=>by simp at hh;omega,fun l h=>(s.gD l h).imp id fun hh=>by simp at hh;omega⟩
theorem ScR.step{p:Pw}{w:Nat}{F D F' D':Np}{S U:St}{v:V}{ts:List Sct}(h:ScR p (fun l=>l=w∨F l) S v ts)(s:Stp w F D S F' D' U):ScR p (fun l=>l=w∨F' l) U v ts:=
 h.mono s.k fun l hh=>hh.elim (fun e=>.inl (.inl e)) fun e=>(s.gF l e).imp .inr id
theorem ScR.push{p:Pw}{X:Np}{S:St}{v:V}{ts:List Sct}(h:ScR p X S v ts)(os:List Ob):ScR p X (S++os) v ts:=h.mono ((Kp.refl _ _).push _) fun _ hh=>.inl hh
def qd6(l:List Bz):List (List V):=l.map fun x=>[.str x]
theorem j6{l:List Bz}{i:Nat}{x:Bz}(h:l[i]?=some x):(qd6 l)[i]?=some [.str x]:=by simp[qd6,h]
theorem Z0(l:List Bz):(qd6 l).length=l.length:=by simp[qd6]
theorem qdF{α β:Type}(g:α→List β){l:List α}{i:Nat}(h:i<l.length):l.flatMap g=(l.take i).flatMap g++(g l[i]++(l.drop (i+1)).flatMap g):=by
 have h1:l=l.take i++(l[i]::l.drop (i+1)):=by rw[←qqQ h,qqy]
 conv=>lhs;rw[h1]
 rw[qqs,qpR]
theorem qcV{α β:Type}(g:α→List β){l:List α}{i j:Nat}{y:β}(h:i<l.length)(hj:(g l[i])[j]?=some y):(l.flatMap g)[((l.take i).flatMap g).length+j]?=some y:=by
 rw[qdF g h,qpj (by omega),qqC,qpk (qpi.1 hj).1,hj]
theorem qb4{α β:Type}(g:α→List β){l:List α}{i:Nat}(h:i<l.length):((l.take (i+1)).flatMap g).length=((l.take i).flatMap g).length+(g l[i]).length:=by
 rw[qpI,qpn h,qqd,qqs,qpw];simp
def y8(d:List De):List Bz:=d.flatMap De.names
theorem QG(d:List De)(b:List Sm):qe d b=y8 d++qk b:=rfl
theorem qbe(l:List Sm)(b:Bool)(S:St):qt prog 158 [.sl b (l.map Sm.v)] S (fun v U=>v=.fn (.func 187) [] [.ptr S.length 0 0 1]∧U=S++[.arr [.sl false (l.map Sm.v)] 1 1]):=by
 refine qt.weakA ?_;simp only[V.weakL,V.weak,wSm];refine qt.ib func158 ok158 ?_;simp[c158,qM];exact qf rfl ⟨rfl,rfl⟩
theorem qi9(s:Sm)(S:St):qt prog 219 [s.v] S (fun v U=>v=.fn (.func 255) [] [.ptr S.length 0 0 1]∧U=S++[.arr [s.v] 8 1]):=by
 refine qt.ib func219 ok219 ?_;simp[c219,qM];exact qf rfl ⟨rfl,rfl⟩
theorem qji(d:De)(S:St):qt prog 272 [d.v] S (fun v U=>v=.fn (.func 277) [] [.ptr S.length 0 0 1]∧U=S++[.arr [d.v] 7 1]):=by
 refine qt.ib func272 ok272 ?_;simp[c272,qM];exact qf rfl ⟨rfl,rfl⟩
theorem qfz(d:De)(hl:d.formals.length≤B50)(c:Nat):qao prog 277 [] [.ptr c 0 0 1] (qd6 (d.formals.map Fo.name)) (fun U=>U[c]?=some (.arr [d.v] 7 1)):=by
 intro S l J D F0 hB hcap hJ hD _ _ hy h0;have hc:=hcap _ _ _ h0;unfold B50 at hl;rw[Z0,qps];refine qt.ib func277 ok277 ?_;simp[c277,ldS,hc];refine qw (fun j e S'=>∃i:Nat,j=d.formals.length - i∧i≤d.formals.length∧∃F,J i F S'∧Kg F0 S F S'∧
  e=[(8,.int .i64 i),(7,.int .i64 d.formals.length),(6,.sl false (d.formals.map Fo.v)),(0,.yld l)]) d.formals.length _ ?_ ⟨0,by simp,by omega,F0,h0,Kg.refl _ _,rfl⟩ ?_
 ·exact Env.so (by simp)
 rintro j e S' ⟨i,rfl,hi,F,hj,hk,rfl⟩;by_cases h:i<d.formals.length
 ·simp[h,qmD,qM,stS,qi,ldS];refine qij (hy i _ (j6 (x:=d.formals[i].name) (by simp[h])) F _ (hJ _ _ _ _ hj) (hk.push _)) ?_;rintro v U' ⟨F',hk',⟨rfl,hj'⟩|⟨rfl,hd'⟩⟩
  ·simp[ze (n:=(i:Int)+1)];refine ⟨_,?_,_,?_,i+1,rfl,by omega,F',hj',(hk.push _).trans hk',rfl⟩
   ·omega
   ·exact Env.so (by simp)
  ·simp;exact qf rfl ⟨F',(hk.push _).trans hk',.inr hd'⟩
 ·simp[h];have:i=d.formals.length:=by omega
  subst this;exact qv rfl ⟨F,hk,.inl hj⟩
theorem J8(l:List Sm)(hl:l.length≤B50)(hok:Sm.okL l)(c:Nat):qao prog 187 [] [.ptr c 0 0 1] (qd6 (qk l)) (fun U=>U[c]?=some (.arr [.sl false (l.map Sm.v)] 1 1)):=by
 intro S y J D F0 hB hcap hJ hD _ _ hy h0;have hc:=hcap _ _ _ h0;unfold B50 at hl;rw[Z0];refine qt.ib func187 ok187 ?_;simp[c187,ldS,hc];refine qw (fun j e S'=>∃i:Nat,j=l.length - i∧i≤l.length∧∃F,J (qk (l.take i)).length F S'∧Kg F0 S F S'∧
  e=[(9,.int .i64 i),(8,.int .i64 l.length),(7,.sl false (l.map Sm.v)),(0,.yld y)]) l.length _ ?_ ⟨0,by simp,by omega,F0,h0,Kg.refl _ _,rfl⟩ ?_
 ·exact Env.so (by simp)
 rintro j e S' ⟨i,rfl,hi,F,hj,hk,rfl⟩;by_cases h:i<l.length
 case neg=>
  simp[h];have:i=l.length:=by omega
  subst this;rw[qp9] at hj;exact qv rfl ⟨F,hk,.inl hj⟩
 have hll:=((Sm.ok_iff _).1 (Sm.okL_mem hok _ (qpz h))).labels.1;unfold B50 at hll;simp[h,qiH,qM,stS,qi,ldS];refine qO (fun e U=>∃F,J (qk (l.take (i+1))).length F U∧Kg F0 S F U∧e.get 9=some (.int .i64 i)∧e.get 8=some (.int .i64 l.length)∧e.get 7=some (.sl false (l.map Sm.v))∧e.get 0=some (.yld y)) ?_ ?_
 ·refine qw (fun j e U=>∃k:Nat,j=l[i].labels.length - k∧k≤l[i].labels.length∧∃F,J ((qk (l.take i)).length+k) F U∧Kg F0 S F U∧
   e=[(16,.int .i64 k),(15,.int .i64 l[i].labels.length),(14,.sl false (l[i].labels.map .str)),(9,.int .i64 i),(8,.int .i64 l.length),(7,.sl false (l.map Sm.v)),(0,.yld y)]) l[i].labels.length _ ?_ ⟨0,by simp,by omega,F,hJ _ _ _ _ hj,hk.push _,rfl⟩ ?_
  ·exact Env.so (by simp)
  rintro j e U ⟨k,rfl,hki,F,hj,hk,rfl⟩;by_cases g:k<l[i].labels.length
  ·simp[g,Zx];refine qij (hy _ _ (j6 (qcV Sm.labels h (y:=l[i].labels[k]) (by simp[g]))) F _ hj hk) ?_;rintro v U' ⟨F',hk',⟨rfl,hj'⟩|⟨rfl,hd'⟩⟩
   ·simp[ze (n:=(k:Int)+1)];refine ⟨_,?_,_,?_,k+1,rfl,by omega,F',hj',hk.trans hk',rfl⟩
    ·omega
    ·exact Env.so (by simp)
   ·simp;exact qf rfl ⟨F',hk.trans hk',.inr hd'⟩
  ·have:k=l[i].labels.length:=by omega
   subst this;simp;refine ⟨F,?_,hk⟩;have:=qb4 Sm.labels h;unfold qk at *;rw[this];exact hj
 rintro e U ⟨F,hj,hk,g9,g8,g7,g0⟩;simp[g9,ze (n:=(i:Int)+1)];refine ⟨_,?_,_,?_,i+1,rfl,by omega,F,hj,hk,rfl⟩
 ·omega
 ·repeat' first|exact Env.sub_nil _|refine Env.sub_cons (by simp[g8,g7,g0]) ?_
theorem qeI(s:Sm)(hds:s.decls.length≤B50∧De.okL s.decls)(hbs:s.body.length≤B50∧Sm.okL s.body)(c:Nat):qao prog 255 [] [.ptr c 0 0 1] (qd6 (qe s.decls s.body)) (fun U=>U[c]?=some (.arr [s.v] 8 1)):=by
 intro S y J D F0 hB hcap hJ hD hJl hDl hy h0;have hc:=hcap _ _ _ h0;have hdl:=hds.1;unfold B50 at hdl;rw[Z0];have nM:¬ F0 S.length:=fun h=>by have:=hB _ _ _ h0 _ h;omega
 have hyd:∀(i:Nat) (x:Bz),(y8 s.decls)[i]?=some x→∀F U,J i F U→Kg F0 S F U→zV prog y [.str x] U (fun v U'=>∃F',Kg F U F' U'∧((v=.bool true∧J (i+1) F' U')∨(v=.bool false∧D F' U'))):=fun i x hx=>
  hy i _ (j6 (by rw[QG,qpk (qpi.1 hx).1];exact hx))
 have hyl:∀(i:Nat) (a:List V),(qd6 (qk s.body))[i]?=some a→∀F U,J ((y8 s.decls).length+i) F U→Kg F0 S F U→zV prog y a U (fun v U'=>∃F',Kg F U F' U'∧((v=.bool true∧J ((y8 s.decls).length+i+1) F' U')∨(v=.bool false∧D F' U'))):=fun i a ha=>
  hy _ a (by
   unfold qd6 at ha ⊢;rw[qpt] at ha;obtain ⟨x,hx,rfl⟩:=qpq.1 ha;rw[QG,qpH];rw[qpj (by simp),qps,qqC];simp[hx])
 refine qt.ib func255 ok255 ?_;have hc1:(S++[Ob.arr [.yld y] 1 1])[c]?=some (.arr [s.v] 8 1):=gp hc;have hy1:(S++[Ob.arr [.yld y] 1 1])[S.length]?=some (.arr [.yld y] 1 1):=by simp
 have hk1:Kg F0 S F0 (S++[Ob.arr [.yld y] 1 1]):=(Kg.refl _ _).push _;have hj1:=hJ _ _ _ (Ob.arr [.yld y] 1 1) h0;simp[c255,qM,V.cells,V.flat,V.size];generalize S++[Ob.arr [.yld y] 1 1]=S1 at hc1 hy1 hk1 hj1 ⊢;simp[ldS,hc1];refine qO (fun e U=>∃F,J (y8 s.decls).length F U∧Kg F0 S F U∧¬ F S.length∧U[S.length]?=some (.arr [.yld y] 1 1)∧e.get 1=some (.ptr c 0 0 1)∧e.get 2=some (.ptr S.length 0 0 1)) ?_ ?_
 ·refine qw (fun j e U=>∃i:Nat,j=s.decls.length - i∧i≤s.decls.length∧∃F,J (y8 (s.decls.take i)).length F U∧Kg F0 S F U∧¬ F S.length∧U[S.length]?=some (.arr [.yld y] 1 1)∧
   e=[(11,.int .i64 i),(10,.int .i64 s.decls.length),(9,.sl false (s.decls.map De.v)),(1,.ptr c 0 0 1),(2,.ptr S.length 0 0 1)]) s.decls.length _ ?_ ⟨0,by simp,by omega,F0,hj1,hk1,nM,hy1,rfl⟩ ?_
  ·exact Env.so (by simp)
  rintro j e U ⟨i,rfl,hi,F,hj,hk,nF,hyy,rfl⟩;by_cases h:i<s.decls.length
  case neg=>
   have:i=s.decls.length:=by omega
   subst this;rw[qp9] at hj;simp;exact ⟨F,hj,hk,nF,hyy⟩
  have hll:=((De.ok_iff _).1 (De.okL_mem hds.2 _ (qpz h))).names.1;unfold B50 at hll;simp[h,ql9,qM,stS,qi,ldS];refine qO (fun e U=>∃F,J (y8 (s.decls.take (i+1))).length F U∧Kg F0 S F U∧¬ F S.length∧U[S.length]?=some (.arr [.yld y] 1 1)∧e.get 11=some (.int .i64 i)∧e.get 10=some (.int .i64 s.decls.length)∧e.get 9=some (.sl false (s.decls.map De.v))∧e.get 1=some (.ptr c 0 0 1)∧e.get 2=some (.ptr S.length 0 0 1)) ?_ ?_
  ·refine qw (fun j e U=>∃k:Nat,j=s.decls[i].names.length - k∧k≤s.decls[i].names.length∧∃F,J ((y8 (s.decls.take i)).length+k) F U∧Kg F0 S F U∧¬ F S.length∧U[S.length]?=some (.arr [.yld y] 1 1)∧
    e=[(18,.int .i64 k),(17,.int .i64 s.decls[i].names.length),(16,.sl false (s.decls[i].names.map .str)),(11,.int .i64 i),(10,.int .i64 s.decls.length),(9,.sl false (s.decls.map De.v)),(1,.ptr c 0 0 1),(2,.ptr S.length 0 0 1)]) s.decls[i].names.length _ ?_ ⟨0,by simp,by omega,F,hJ _ _ _ _ hj,hk.push _,nF,gp hyy,rfl⟩ ?_
   ·exact Env.so (by simp)
   rintro j e U ⟨k,rfl,hki,F,hj,hk,nF,hyy,rfl⟩;by_cases g:k<s.decls[i].names.length
   ·simp[g,Zx,ldS,hyy];refine qij (hyd _ _ (qcV De.names h (y:=s.decls[i].names[k]) (by simp[g])) F _ hj hk) ?_;rintro v U' ⟨F',hk',⟨rfl,hj'⟩|⟨rfl,hd'⟩⟩
    ·simp[ze (n:=(k:Int)+1)];refine ⟨_,?_,_,?_,k+1,rfl,by omega,F',hj',hk.trans hk',hk'.off (glt hyy) nF,hk'.k.at hyy nF,rfl⟩
     ·omega
     ·exact Env.so (by simp)
    ·simp;exact qf rfl ⟨F',hk.trans hk',.inr hd'⟩
   ·have:k=s.decls[i].names.length:=by omega
    subst this;simp;refine ⟨F,?_,hk,nF,hyy⟩;have:=qb4 De.names h;unfold y8 at *;rw[this];exact hj
  rintro e U ⟨F,hj,hk,nF,hyy,g11,g10,g9,g1,g2⟩;simp[g11,ze (n:=(i:Int)+1)];refine ⟨_,?_,_,?_,i+1,rfl,by omega,F,hj,hk,nF,hyy,rfl⟩
  ·omega
  ·repeat' first|exact Env.sub_nil _|refine Env.sub_cons (by simp[g10,g9,g1,g2]) ?_
 rintro e U ⟨F,hj,hk,nF,hyy,g1,g2⟩;have hcU:=hcap _ _ _ hj;have hBU:=hB _ _ _ hj;simp[g1,ldS,hcU];refine qj (qbe s.body false U) ?_;rintro v U2 ⟨rfl,rfl⟩;simp;have hlen:(qe s.decls s.body).length=(y8 s.decls).length+(qk s.body).length:=by rw[QG,qpw]
 have hUl:=hk.k.len;have hylt:=glt hyy;refine qaX (k:=187) (fs:=[]) (cs:=[.ptr U.length 0 0 1]) (by simp) (J8 s.body hbs.1 hbs.2 U.length) rfl rfl rfl (by intro a ha;obtain ⟨x,_,rfl⟩:=qpE.1 ha;rfl) F
  (fun i F V=>J ((y8 s.decls).length+i) F V∧V[U.length]?=some (.arr [.sl false (s.body.map Sm.v)] 1 1)∧V[S.length]?=some (.arr [.yld y] 1 1)∧Kg F0 S F V∧¬ F S.length∧¬ F U.length∧¬ F (U.length+1)) (fun F V=>D F V∧Kg F0 S F V) (fun _ _ _=>False) ?_ ?_ ?_ ?_ ?_ ?_ ?_ ?_ ?_ ?_ ?_ ?_ ?_
 ·rintro i F V ⟨h,_⟩;exact hB _ _ _ h
 ·rintro i F V ⟨_,h,_⟩;exact h
 ·rintro i F V ⟨a,b,c,d,n⟩ o;exact ⟨hJ _ _ _ _ a,gp b,gp c,d.push _,n⟩
 ·rintro F V ⟨a,d⟩ o;exact ⟨hD _ _ _ a,d.push _⟩
 ·rintro id F V h;exact h.elim
 ·rintro i F V L o o' hL ⟨a,b,c,d,n⟩ hl;simp at hL;exact ⟨hJl _ _ _ _ _ _ (by omega) a hl,gl b (by simp) hl,gl c (by simp) hl,d.set _ (.inr (by omega)),n⟩
 ·rintro F V L o o' hL ⟨a,d⟩ hl;simp at hL;exact ⟨hDl _ _ _ _ _ (by omega) a hl,d.set _ (.inr (by omega))⟩
 ·rintro id F V L o o' hL h;exact h.elim
 ·exact ⟨hJ _ _ _ _ (hJ _ _ _ _ hj),by simp,gp (gp hyy),(hk.push _).push _,nF,fun h=>by have:=hBU _ h;omega,fun h=>by have:=hBU _ h;omega⟩
 ·rintro i av hav F V ⟨hjv,h1,h2,h3,nS,nU,nL⟩ hkk hl;have hav':=hav;unfold qd6 at hav';rw[qpt] at hav';obtain ⟨x,hx,rfl⟩:=qpq.1 hav';generalize hke:Env.keep _ _=ke at hl ⊢;have k2:ke.get 2=some (.ptr S.length 0 0 1):=by rw[←hke];exact Env.keep_get (by simp) (by simp[g2])
  clear hke;simp at hl;simp[QA];refine QQ hl rfl ?_;have lV:=glt hl;have hjw:=hJl _ _ _ _ _ { st:=.busy,pend:=none,ps:=[31],asg:=(Qm Tryz.f255 0).1,body:=(Qm Tryz.f255 0).2,e:=ke,N:=36 } (by omega) hjv hl;have hyw:=gl (i':={ st:=.busy,pend:=none,ps:=[31],asg:=(Qm Tryz.f255 0).1,body:=(Qm Tryz.f255 0).2,e:=ke,N:=36 }) h2 (by simp) hl;have hcw:=gl (i':={ st:=.busy,pend:=none,ps:=[31],asg:=(Qm Tryz.f255 0).1,body:=(Qm Tryz.f255 0).2,e:=ke,N:=36 }) h1 (by simp) hl;have hLw:(V.set (U.length+1) (.loop { st:=.busy,pend:=none,ps:=[31],asg:=(Qm Tryz.f255 0).1,body:=(Qm Tryz.f255 0).2,e:=ke,N:=36 }))[U.length+1]?=some (.loop _):=qpl lV;have hkw:Kg (fun x=>F x∨x=U.length+1) V (fun x=>F x∨x=U.length+1) (V.set (U.length+1) (.loop { st:=.busy,pend:=none,ps:=[31],asg:=(Qm Tryz.f255 0).1,body:=(Qm Tryz.f255 0).2,e:=ke,N:=36 })):=(Kg.refl _ _).set _ (.inl (.inr rfl));have h3w:Kg F0 S F (V.set (U.length+1) (.loop { st:=.busy,pend:=none,ps:=[31],asg:=(Qm Tryz.f255 0).1,body:=(Qm Tryz.f255 0).2,e:=ke,N:=36 })):=h3.set _ (.inr (by omega));generalize V.set (U.length+1) _=W at hjw hyw hcw hLw hkw h3w ⊢;simp[k2,ldS,hyw];refine qij (hyl i _ hav F W hjw h3w) ?_;rintro v X ⟨F',xk,⟨rfl,xj⟩|⟨rfl,xd⟩⟩
  ·simp;have hLX:=xk.k.at hLw nL;exact kN ⟨rfl,rfl⟩ hLX (hkw.trans (xk.with _ (glt hLw))) ⟨hJl _ _ _ _ _ _ (by omega) xj hLX,gl (xk.k.at hcw nU) (by simp) hLX,gl (xk.k.at hyw nS) (by simp) hLX,(h3w.trans xk).set _ (.inr (by omega)),xk.off (glt hyw) nS,xk.off (glt hcw) nU,xk.off (glt hLw) nL⟩
  ·simp;have hLX:=xk.k.at hLw nL;exact qlR hLX (hkw.trans (xk.with _ (glt hLw))) ⟨hDl _ _ _ _ _ (by omega) xd hLX,(h3w.trans xk).set _ (.inr (by omega))⟩
 ·rintro F V ⟨hjv,_,_,h3,_⟩ _;rw[Z0] at hjv;simp;refine qv rfl ⟨F,h3,.inl ?_⟩;rw[hlen];exact hjv
 ·rintro F V ⟨hd,h3⟩ _;exact qf rfl ⟨F,h3,.inr hd⟩
 ·rintro id F V h;exact h.elim
end Go.Proofs.YtbifpocccfkhhaaGreatDoor
end
