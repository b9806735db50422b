/- The statement CopyFrees holds: for every statement, name and expression the law returns true and changes nothing. -/
import Derived.Test.YtbifpocccfkhhaaGreatDoorTl
set_option linter.all false
noncomputable section
namespace Go.Proofs.YtbifpocccfkhhaaGreatDoor
open Go Go.Proofs.Tryz
def usP:Pw where
 H:=List Bz
 f _ x:=x
 nm:=some fun x _ _=>x
 cl:=none
 ent h _ _:=h
 nmH h x _ _:=h++[x.text]
 clH h _ _:=h
structure Us(m c:Nat)(h:List Bz)(F D:Np)(U:St):Prop where
 fc:U[c]?=some (.arr [.map m] 1 1)
 fm:∃bs ck,(ZB bs ck∧bs.length=(h.foldl Qr []).length)∧U[m]?=some (.map ((h.foldl Qr []).map kv) bs ck)
 hF:∀l,F l↔l=m
 hD:∀l,D l↔l=c
def usC(m c:Nat):Cb where
 toPw:=usP
 fe:=.nilfn
 fn:=.fn (.func 133) [] [.ptr c 0 0 1]
 fc:=.nilfn
 I h F D U:=Us m c h F D U
 cn _ _:=True
 lim:=100001
section
variable {m c:Nat} {h:List Bz} {F D:Np} {U:St}
theorem Us.fr{U':St}{M:Np}(k:Us m c h F D U)(hk:Kp M U U')(hM:∀l,M l→l<U.length→¬ F l∧¬ D l):Us m c h F D U':=by
 obtain ⟨bs,ck,hst,hm⟩:=k.fm;exact ⟨hk.at k.fc fun hh=>(hM _ hh (glt k.fc)).2 ((k.hD _).2 rfl),⟨bs,ck,hst,hk.at hm fun hh=>(hM _ hh (glt hm)).1 ((k.hF _).2 rfl)⟩,k.hF,k.hD⟩
theorem Us.use(k:Us m c h F D U)(h':List Bz){bs:List Nat}{ck:Nat}(hst:ZB bs ck∧bs.length=(h'.foldl Qr []).length):Us m c h' F D (U.set m (.map ((h'.foldl Qr []).map kv) bs ck)):=by
 obtain ⟨bs0,ck0,_,hm⟩:=k.fm;refine ⟨?_,⟨bs,ck,hst,qpl (glt hm)⟩,k.hF,k.hD⟩;rw[qpm (jq hm k.fc (by simp))];exact k.fc
theorem qkf(k:Us m c h F D U)(x:Ex)(v:V)(tg:Bool):
  qt prog 133 [x.v,v,.bool tg,.ptr c 0 0 1] U (fun r U'=>r=x.v∧Us m c (h++[x.text]) F D U'∧Kp F U U'):=by
 refine qt.ib func133 ok133 ?_;simp[c133,qM];obtain ⟨U1,hU1⟩:∃U1:St,U1=U++[.arr [x.v] 7 1,.arr [.agg [.int .i64 0,.int .i64 0,.int .i64 0,.int .i64 0,.int .i64 0,.str ⟨⟨[]⟩⟩,.sl true []]] 7 1]:=⟨_,rfl⟩;rw[←hU1];have l1:U1.length=U.length+2:=by rw[hU1];simp
 have b0:U1[U.length]?=some (.arr [x.v] 7 1):=by rw[hU1];simp
 have b1:U1[U.length+1]?=some (.arr [.agg [.int .i64 0,.int .i64 0,.int .i64 0,.int .i64 0,.int .i64 0,.str ⟨⟨[]⟩⟩,.sl true []]] 7 1):=by rw[hU1,qpj (by omega)];simp
 have kp1:Kp F U U1:=by rw[hU1];exact (Kp.refl _ _).push _
 have k1:Us m c h F D U1:=by rw[hU1];exact k.fr (M:=fun _=>False) ((Kp.refl _ _).push _) fun _ h=>h.elim
 clear hU1;have h6:=k1.fc;obtain ⟨bs,ck,hst,hm⟩:=k1.fm;have lm:=glt k.fm.choose_spec.choose_spec.2;have lc:=glt k.fc;have hft:fits 1 [V.str x.text]=true:=rfl;simp[ldS,h6,b0,hft];refine qj (qei true [x.text] _ bs ck m U1 (by simp) hm) ?_;rintro r U2 ⟨bs',ck',hst',hln',rfl⟩;have k2:=k1.use (h++[x.text]) (bs:=bs') (ck:=ck') ⟨hst' hst.1,by rw[qpX];exact hln' hst.2⟩;rw[qpX] at k2
 have g:∀{l o},U1[l]?=some o→l≠m→(U1.set m (.map (([x.text].foldl Qr (h.foldl Qr [])).map kv) bs' ck'))[l]?=some o:=fun {l o} ho hl=>by
  rw[qpm (Ne.symm hl)];exact ho
 have c0:=g b0 (by omega);have c1:=g b1 (by omega);have kp2:Kp F U (U1.set m (.map (([x.text].foldl Qr (h.foldl Qr [])).map kv) bs' ck')):=kp1.set _ (.inl ((k.hF m).2 rfl));obtain ⟨U2,hU2⟩:∃U2,U2=U1.set m (.map (([x.text].foldl Qr (h.foldl Qr [])).map kv) bs' ck'):=⟨_,rfl⟩;rw[←hU2] at c0 c1 k2 kp2 ⊢;simp[ldS,c0,stS,c1,qi];have hz:(U2.set (U.length+1) (.arr [x.v] 7 1))[U.length+1]?=some (.arr [x.v] 7 1):=qpl (glt c1);refine qf (vs:=[x.v]) (by simp[rvs,ldS,hz]) ⟨rfl,k2.fr (M:=fun l=>l=U.length+1) ((Kp.refl _ _).set _ (.inl rfl)) fun l hl _=>⟨fun hf=>?_,fun hf=>?_⟩,kp2.set _ (.inr (by omega))⟩
 ·have:=(k.hF _).1 hf;omega
 ·have:=(k.hD _).1 hf;omega
end
theorem qie(n:Nat):ZB (List.range n) n∧(List.range n).length=n:=⟨⟨fun b hb=>qrg.1 hb,List.nodup_range⟩,List.length_range⟩
theorem qmN(m c:Nat):(usC m c).Ok where
 lim:=qpo _
 lt:=fun {h F D S} k l hl=>by
  have k:Us m c h F D S:=k;rcases hl with hl|hl
  ·obtain ⟨_,_,_,hm⟩:=k.fm;rw[(k.hF l).1 hl];exact glt hm
  ·rw[(k.hD l).1 hl];exact glt k.fc
 fr:=fun k hk hM=>Us.fr k hk hM
 lp:=fun {h F D S} k l o ho=>by
  have k:Us m c h F D S:=k;refine ⟨fun hf=>?_,fun hf=>?_⟩
  ·obtain ⟨_,_,_,hm⟩:=k.fm;rw[(k.hF l).1 hf,hm] at ho;cases ho
  ·rw[(k.hD l).1 hf,k.fc] at ho;cases ho
 ce _ _:=trivial
 cm _ _ _ _:=trivial
 cc _ _ _:=trivial
 real:=fun {h F D S} k h'=>⟨F,D,_,Us.use k h' (qie _),(Kp.refl _ _).set _ (.inl ((k.hF m).2 rfl)),grow.refl _ _,grow.refl _ _⟩
 en:=.inl ⟨rfl,fun _ _=>rfl,fun _ _ _=>rfl⟩
 nm:=⟨133,[.ptr c 0 0 1],rfl,fun U x w ts tg w' h F D hsc k=>qt.mono (qkf k x w tg) fun r U' ⟨a,b,c⟩=>⟨a,F,D,b,c,grow.refl _ _,grow.refl _ _⟩⟩
 cl:=rfl
def qgG(h:usP.H):List Bz:=h
def usZ:usP.H:=([]:List Bz)
theorem qmu(sc:Scs)(tg:Bool)(h:usP.H)(k o n m e:Int)(t:Bz)(a:List Ex):qgG (usP.nmS sc tg h (.mk k o n m e t a))=if Ex.named k=true then qgG h++[t] else qgG h:=by
 show qgG (if Ex.named k=true then _ else _)=_;split <;> rfl
mutual
theorem Ex.hs_us(sc:Scs)(tg:Bool):∀(x:Ex) (h:usP.H),qgG (Ex.hs usP sc tg h x)=qgG h++Ex.occ x
 | .mk k o n m e t a,h=>by
  rw[Ex.hs,qmu,Ex.hsl_us sc false a h,Ex.occ];split <;> simp
theorem Ex.hsl_us(sc:Scs)(tg:Bool):∀(l:List Ex) (h:usP.H),qgG (Ex.hsl usP sc tg h l)=qgG h++Ex.occl l
 | [],h=>by simp[Ex.hsl,Ex.occl]
 | x::l,h=>by rw[Ex.hsl,Ex.hsl_us sc tg l,Ex.hs_us sc tg x,Ex.occl,qpB]
end
mutual
theorem Ex.occ_ok:∀(x:Ex),x.ok→∀z,z∈Ex.occ x→z.size≤B50
 | .mk k o n m e t a,v,z,hz=>by
  obtain ⟨h1,h2,h3⟩:=v;rw[Ex.occ] at hz;rcases qpr.1 hz with hz|hz
  ·exact Ex.occl_ok a h3 z hz
  ·split at hz
   ·simp at hz;subst hz;exact h1
   ·simp at hz
theorem Ex.occl_ok:∀(l:List Ex),Ex.okL l→∀z,z∈Ex.occl l→z.size≤B50
 | [],_,z,hz=>by simp[Ex.occl] at hz
 | x::l,⟨h1,h2⟩,z,hz=>by
  rw[Ex.occl] at hz;rcases qpr.1 hz with hz|hz
  ·exact Ex.occ_ok x h1 z hz
  ·exact Ex.occl_ok l h2 z hz
end
mutual
theorem Ex.occ_len:∀(x:Ex),(Ex.occ x).length≤(Pa.ex x).size
 | .mk k o n m e t a=>by
  have h1:=Ex.occl_len a;have hz:=Pa.size_eq (.ex (.mk k o n m e t a));simp only[Pa.own,Pa.kids,Ex.args] at hz;rw[Ex.occ,qpw];split
  ·simp only[List.length_singleton];omega
  ·simp only[qqj];omega
theorem Ex.occl_len:∀(l:List Ex),(Ex.occl l).length≤qJ (l.map Pa.ex)
 | []=>by simp[Ex.occl]
 | x::l=>by
  have h1:=Ex.occ_len x;have h2:=Ex.occl_len l;rw[Ex.occl,qpw,qpv,sizes_cons];omega
end
theorem qiv(b:Bool)(l:List Ex)(hl:qJ (l.map Pa.ex)≤4000)(S:St):
  qt prog 74 [.sl b (l.map Ex.v)] S (fun r U=>∃m bs ck,r=.map m∧(ZB bs ck∧bs.length=((Ex.occl l).foldl Qr []).length)∧U[m]?=some (.map (((Ex.occl l).foldl Qr []).map kv) bs ck)∧Kp (fun _=>False) S U∧S.length≤m):=by
 refine qt.weakA ?_;simp only[V.weakL,V.weak,wEx];refine qt.ib func74 ok74 ?_;simp[c74,qM,ldS,stS,qi,qY,qF,evX,Yn,Yf];obtain ⟨B,hB⟩:∃B,B=S.length:=⟨_,rfl⟩;obtain ⟨S1,hS1⟩:∃S1:St,S1=S++[.map [] [] 0,.arr [.map B] 1 1,.arr [.agg [.int .i64 0,.nilfn,.fn (.func 133) [] [.ptr (B+1) 0 0 1],.nilfn]] 4 1]:=⟨_,rfl⟩;rw[←hB,←hS1];have l1:S1.length=B+3:=by rw[hS1,hB];simp
 have b0:S1[B]?=some (.map [] [] 0):=by rw[hS1,hB];simp
 have b1:S1[B+1]?=some (.arr [.map B] 1 1):=by rw[hS1,hB,qpj (by omega)];simp
 have b2:S1[B+2]?=some (.arr [.agg [.int .i64 0,.nilfn,.fn (.func 133) [] [.ptr (B+1) 0 0 1],.nilfn]] 4 1):=by rw[hS1,hB,qpj (by omega)];simp
 have kS:Kp (fun _=>False) S S1:=by rw[hS1];exact (Kp.refl _ _).push _
 have k1:Us B (B+1) [] (fun l=>l=B) (fun l=>l=B+1) S1:=⟨b1,⟨[],0,⟨ZB.nil,rfl⟩,b0⟩,fun _=>Iff.rfl,fun _=>Iff.rfl⟩;have hw:Wk (usC B (B+1)) (B+2) 0 ([]:List Bz) (fun l=>l=B) (fun l=>l=B+1) S1:=⟨b2,k1,by omega,by omega,trivial⟩;clear hS1 k1;refine qj (JZ (usC B (B+1)) (qmN _ _) (B+2) l hl 0 ([]:List Bz) _ _ S1 .nilp [] false hw rfl) ?_;rintro r U ⟨rfl,F2,D2,k2,s2⟩;have kk:Us B (B+1) (qgG (Ex.hsl usP (Scx []) false usZ l)) F2 D2 U:=k2.st;rw[Ex.hsl_us (Scx []) false l usZ] at kk;have he:qgG usZ++Ex.occl l=Ex.occl l:=rfl;rw[he] at kk;have h4:=kk.fc;obtain ⟨bs,ck,hst,hm⟩:=kk.fm;simp[ldS,h4];refine qf rfl ⟨B,rfl,bs,ck,hst,hm,⟨qpV kS.len s2.k.len,fun l hl hn=>?_⟩,by omega⟩;rw[s2.k.get l (by have:=kS.len;omega) (by rintro (hh|hh) <;> omega)];exact kS.get l hl hn
def Lss(v v':V):Prop:=v'.cells.length=v.cells.length∧∀(j:Nat) (c c':V),v.cells[j]?=some c→v'.cells[j]?=some c'→∀(E:En) (u:Value),VR E c u→VR E c' u
section
variable {S:St} {l sz wr:Nat} {xs ys:List V} (ho:S[l]?=some (.arr xs sz wr)) (hn:ys.length=xs.length) (hx:∀(i:Nat) (v v':V),xs[i]?=some v→ys[i]?=some v'→Lss v v')
include ho
include hn hx
end
theorem qjm{X:St}{L lm since last:Nat}{seen bs:List Nat}{es:List (V×V)}{ck:Nat}(h1:X[L]?=some (.iter lm since seen last))(h2:X[lm]?=some (.map es bs ck))(hb:∀b,b∈bs→b<since)(hs:since≤last):
  qd7 X (.ptr L 0 0 0)=match (es.zip bs).filter fun q=>!seen.contains q.2 with
   | []=>[(.tup [.bool false],X)]
   | c::cs=>(c::cs).map fun q=>(.tup [.bool true,q.1.1,q.1.2],X.set L (.iter lm since (seen++[q.2]) ck)):=by
 have hc:(bs.all fun b=>decide (b<since))=true∧since≤last:=⟨by simpa using hb,hs⟩;simp only[qd7,h1,h2,if_pos hc];rfl
theorem qg2{P:Program}{d:Option Nat}{it:Opd}{os:List O'}{Q:Env→St→Prop}{e:Env}{X:St}{L lm since last:Nat}{seen bs:List Nat}{es:List (V×V)}{ck:Nat}
  (hit:it.ev e=some (.ptr L 0 0 0)) (h1:X[L]?=some (.iter lm since seen last)) (h2:X[lm]?=some (.map es bs ck)) (hb:∀b,b∈bs→b<since) (hs:since≤last) (hl:es.length=bs.length)
  (hA:(∀b,b∈bs→b∈seen)→yA P os Q (e.put d (.tup [.bool false])) X)
  (hB:∀(i:Nat) (k v:V) (b:Nat),es[i]?=some (k,v)→bs[i]?=some b→b∉seen→yA P os Q (e.put d (.tup [.bool true,k,v])) (X.set L (.iter lm since (seen++[b]) ck))):
  yA P (⟨d,none,.ex (.nxt it)⟩::os) Q e X:=by
 rw[jF (by intro f a h;cases h)];have hev:evK e X (.ex (.nxt it))=none:=rfl;rw[hev];show (ndK e (.ex (.nxt it))≠[]∧_)∨_;refine .inr ?_;have hn:ndS e X (.ex (.nxt it))=qd7 X (.ptr L 0 0 0):=by simp only[ndS,hit]
 rw[hn,qjm h1 h2 hb hs]
 cases hf:(es.zip bs).filter fun q=>!seen.contains q.2 with
 | nil=>
  refine ⟨by simp,fun q hq=>?_⟩;simp at hq;subst hq;refine hA fun b hbm=>?_
  obtain ⟨i,hi⟩:=qqz.1 hbm;have hlt:=(qpi.1 hi).1;have hz:(es.zip bs)[i]?=some (es[i],b):=by rw[qqv];exact ⟨qpn (by omega),hi⟩
  have h3:=List.filter_eq_nil_iff.1 hf _ (qpp hz);simpa using h3
 | cons c cs=>
  refine ⟨by simp,fun q hq=>?_⟩;obtain ⟨p,hp,rfl⟩:=qpE.1 hq;rw[←hf] at hp;obtain ⟨hp1,hp2⟩:=qqb.1 hp;obtain ⟨i,hi⟩:=qqz.1 hp1;rw[qqv] at hi;exact hB i p.1.1 p.1.2 p.2 hi.1 hi.2 (by simpa using hp2)
theorem qgr{X:St}{L lm since:Nat}{seen bs:List Nat}{es:List (V×V)}{ck i b:Nat}{k v:V}(h1:X[L]?=some (.iter lm since (seen++[b]) ck))(h2:X[lm]?=some (.map es bs ck))(nd:bs.Nodup)(hk:es[i]?=some (k,v))(hi:bs[i]?=some b):
  qiG X (.ptr L 0 0 0)=some (.tup [k,v]):=by
 have hf:(es.zip bs).find? (fun q=>q.2==b)=some ((k,v),b):=by
  have hz:(es.zip bs)[i]?=some ((k,v),b):=by rw[qqv];exact ⟨hk,hi⟩
  cases hq:(es.zip bs).find? (fun q=>q.2==b) with
  | none=>
   have:=List.find?_eq_none.1 hq _ (qpp hz);simp at this
  | some q=>
   have h3:=List.find?_some hq;simp at h3;obtain ⟨j,hj⟩:=qqz.1 (qq9 hq);have hj2:=hj;rw[qqv] at hj2;rw[h3] at hj2;have hij:i=j:=(List.getElem?_inj (qpi.1 hi).1 nd).1 (hi.trans hj2.2.symm);subst hij;rw[←hj,hz]
 simp only[qiG,h1,h2,if_pos (⟨rfl,nd⟩:ck=ck∧bs.Nodup),List.getLast?_concat];simp[hf,nd]
theorem jl{P:Program}{a c:Nat}{it:Opd}{id:Nat}{body:C'}{Q:yr}{e e0:Env}{S:St}{L lm since:Nat}{bs:List Nat}{es:List (V×V)}{ck:Nat}(J:List Nat→St→Prop)
  (hsub:Env.sub e0 e) (hit:it.ev e0=some (.ptr L 0 0 0)) (hl:es.length=bs.length) (hb:∀b,b∈bs→b<since)
  (h0:J [] S) (hJ:∀seen X,J seen X→(∃last,since≤last∧X[L]?=some (.iter lm since seen last))∧X[lm]?=some (.map es bs ck))
  (fin:∀seen X,J seen X→(∀b,b∈bs→b∈seen)→Q (.exit id) ((c,.bool false)::(a,.tup [.bool false])::e0) X)
  (step:∀(seen:List Nat) (X:St) (i:Nat) (k v:V) (b:Nat),J seen X→es[i]?=some (k,v)→bs[i]?=some b→b∉seen→
   WP P body (Q3 (fun e' X'=>Env.sub e0 e'∧J (seen++[b]) X') Q) ((c,.bool true)::(a,.tup [.bool true,k,v])::e0) (X.set L (.iter lm since (seen++[b]) ck))):
  WP P (.loop (.seq (.reg [⟨some a,none,.ex (.nxt it)⟩,⟨some c,none,.ext 0 (.t a)⟩]) (.seq (.cond (.t c) .skip (.exit id)) body))) Q e S:=by
 refine qw (fun n e X=>e=e0∧∃seen,n=(bs.filter fun b=>!decide (b∈seen)).length∧J seen X) _ e0 hsub ⟨rfl,[],rfl,h0⟩ ?_;rintro n e X ⟨rfl,seen,rfl,hj⟩;obtain ⟨⟨last,hla,h1⟩,h2⟩:=hJ _ _ hj;rw[qcz,qiD];refine qg2 hit h1 h2 hb hla hl (fun hall=>?_) fun i k v b hk hi hn=>?_
 ·simp;exact fin seen X hj hall
 ·simp;refine Qs (fun x e' X' hx=>?_) (step seen X i k v b hj hk hi hn);cases x <;> simp only[Q3] at hx ⊢<;> try exact hx
  obtain ⟨h3,h4⟩:=hx;refine ⟨_,?_,e,h3,rfl,seen++[b],rfl,h4⟩
  have h5:(bs.filter fun x=>!decide (x∈seen++[b]))=(bs.filter fun x=>!decide (x∈seen)).filter fun x=>!decide (x=b):=by
   rw[List.filter_filter];congr 1;funext x;simp[Bool.and_comm]
  rw[h5];exact List.length_filter_lt_length_iff_exists.2 ⟨b,qqb.2 ⟨qpp hi,by simpa using hn⟩,by simp⟩
def suT(l:List Bz)(es:List Ae):List Bz:=l++es.flatMap fun e=>e.2.occ
def Tk(T:Nat)(q:Bz→Prop)(X:St):Prop:=∃(ks:List Bz) (bs:List Nat) (ck:Nat),ZB bs ck∧X[T]?=some (.map (ks.map kv) bs ck)∧ks.Nodup∧∀x,x∈ks↔q x
theorem Tk.keep{T:Nat}{q:Bz→Prop}{X Y:St}(h:Tk T q X)(hk:Y[T]?=X[T]?):Tk T q Y:=by
 obtain ⟨ks,bs,ck,a,b,c⟩:=h;exact ⟨ks,bs,ck,a,by rw[hk];exact b,c⟩
theorem Tk.same{T:Nat}{q q':Bz→Prop}{X:St}(h:Tk T q X)(hq:∀x,q x↔q' x):Tk T q' X:=by
 obtain ⟨ks,bs,ck,a,b,c,d⟩:=h;exact ⟨ks,bs,ck,a,b,c,fun x=>(d x).trans (hq x)⟩
theorem Tk.add{T:Nat}{q:Bz→Prop}{X:St}(h:Tk T q X)(b:Bool)(l:List Bz)(hl:l.length≤1000000):
  qt prog 79 [.map T,.sl b (l.map .str)] X (fun _ U=>Tk T (fun x=>q x∨x∈l) U∧Kp (fun k=>k=T) X U∧U.length=X.length):=by
 obtain ⟨ks,bs,ck,h1,h2,h3,h4⟩:=h;refine qt.mono (qik b l ks bs ck T X hl h2) ?_;rintro r U ⟨bs',ck',hs,rfl⟩;exact ⟨⟨l.foldl Qr ks,bs',ck',hs h1,qpl (glt h2),Qy h3,fun x=>by rw[yy,h4]⟩,(Kp.refl _ _).set _ (.inl rfl),by simp⟩
theorem Sm.aps_size2(s:Sm)(va:(Pa.st s).valid qb=true){taken:List Bz}(hl:s.frees.length+Sm.nb1 [s]+taken.length≤899):∀x,x∈s.aps taken→x.size≤16:=by
 refine qb0 _ _ _ _ (fun x hx=>by simp at hx) (fun x hx=>ZG (s.bounds_nm va x hx)) ?_;have h1:=Zp (l:=taken) (ks:=[]);have h3:=s.bounds_len;simp only[qqj] at h1 ⊢;omega
theorem Sm.ap_ok2(s:Sm)(hs:s.ok)(va:(Pa.st s).valid qb=true){taken:List Bz}(hl:s.frees.length+Sm.nb1 [s]+taken.length≤899):(s.ap taken).ok:=
 Sm.whole_ok (f:=lf (s.aps taken)) (N:=1000) (fun k _=>qlo (s.aps_size2 va hl) k) s (by omega) hs
def suA(s:Sm)(l:List Bz)(es:List Ae):Sm:=s.ap (suT l es)
def suF(s:Sm)(l:List Bz)(es:List Ae):Bool:=sbb ((suA s l es).wholeH (sbP (lkL es)) (false:Bool))
def suO(s:Sm)(l:List Bz)(es:List Ae):Sm:=(suA s l es).wholeR (sbP (lkL es))
def suE(s:Sm)(l:List Bz)(es:List Ae):Int:=if (Pa.st (suA s l es)).err qb≠0 then (Pa.st (suA s l es)).err qb else if suF s l es=true then 10 else (Pa.st (suO s l es)).err qb
def suV(s:Sm)(l:List Bz)(es:List Ae):V:=if suE s l es=0 then (suO s l es).v else smZ
theorem qa6:∀{ks L:List Bz},ks.Nodup→(∀x,x∈ks→x∈L)→ks.length≤L.length
 | [],_,_,_=>qp0 _
 | x::ks,L,nd,h=>by
  have nd:=List.nodup_cons.1 nd;have hx:=h x (by simp);have:=qa6 (L:=L.filter fun y=>decide (y≠x)) nd.2 fun y hy=>qqb.2 ⟨h y (by simp[hy]),by simpa using fun e:y=x=>nd.1 (e ▸ hy)⟩
  have h2:=List.length_filter_lt_length_iff_exists (p:=fun y=>decide (y≠x)).2 ⟨x,hx,by simp⟩;rw[qpF];omega
theorem Qq{x:Bz}{y:Ex}:∀{es:List Ae},lkL es x=some y→(x,y)∈es
 | e::es,h=>by
  simp only[lkL] at h;split at h
  ·rename_i hx;cases h;rw[←hx];simp
  ·exact qqc _ (Qq h)
theorem qiq{es:List Ae}(ho:∀e,e∈es→e.2.ok):Sok (sbP (lkL es)) where
 ok g hg x sc tg hx:=by
  cases hg
  have ht:(sbT (lkL es) sc x.text).size≤B50:=by
   unfold sbT sbn;have hxt:x.text.size≤B50:=by cases x;exact hx.1
   cases sc.at x.text with
   | some k=>exact hxt
   | none=>
    cases hy:lkL es x.text with
    | none=>exact hxt
    | some y=>
     have:=ho _ (Qq hy);cases y;exact this.1
  show Ex.ok (if x.kind=6 then sbX (lkL es) sc x else _);split
  ·unfold sbX
   cases sc.at x.text with
   | some k=>exact hx
   | none=>
    cases hy:lkL es x.text with
    | none=>exact hx
    | some y=>exact ho _ (Qq hy)
  ·cases x;exact ⟨ht,hx.2.1,hx.2.2⟩
 f _ _ hx:=hx
 cl c hc x sc hx:=by
  cases hc;show (sbT (lkL es) sc x).size≤B50;unfold sbT sbn
  cases sc.at x with
  | some k=>exact hx
  | none=>
   cases hy:lkL es x with
   | none=>exact hx
   | some y=>
    have:=ho _ (Qq hy);cases y;exact this.1
theorem qmE(s:Sm)(hs:s.ok)(va:(Pa.st s).valid qb=true)(hsz:(Pa.st s).size≤4000)(b:Bool)(l:List Bz)(es:List Ae)(hl:l.length≤1000)(hz:∀e,e∈es→(Pa.ex e.2).size≤4000)(ho:∀e,e∈es→e.2.ok)
  (hfr:s.frees.length+Sm.nb1 [s]+(suT l es).length≤899) (m:Nat) (bs:List Nat) (ck:Nat) (hbs:ZB bs ck) (hlen:bs.length=es.length) (S:St) (hm:S[m]?=some (.map (es.map aeT) bs ck)):
  qt prog 81 [s.v,.sl b (l.map .str),.map m] S (fun r U=>r=.tup [suV s l es,.int .i64 (suE s l es)]∧Kp (fun _=>False) S U):=by
 refine qt.ib func81 ok81 ?_;obtain ⟨S1,hS1⟩:∃S1:St,S1=S++[.arr [s.v] 8 1,.arr [smZ] 8 1]:=⟨_,rfl⟩;have b0:S1[S.length]?=some (.arr [s.v] 8 1):=by rw[hS1];simp
 have b1:S1[S.length+1]?=some (.arr [smZ] 8 1):=by rw[hS1,qpj (by omega)];simp
 have l1:S1.length=S.length+2:=by rw[hS1];simp
 have kS:Kp (fun _=>False) S S1:=by rw[hS1];exact (Kp.refl _ _).push _
 have m1:=kS.at hm id;have lm:=glt hm;have he:suE s l es=if (Pa.st (suA s l es)).err qb≠0 then (Pa.st (suA s l es)).err qb else if suF s l es=true then 10 else (Pa.st (suO s l es)).err qb:=rfl
 have hv:suV s l es=if suE s l es=0 then (suO s l es).v else smZ:=rfl
 have fin:∀(Y:St) (y:V) (e:Int) (ev:Env),Kp (fun _=>False) S1 Y→suV s l es=y→suE s l es=e→ev.get 6=some (.ptr (S.length+1) 0 0 1)→ev.get 7=some (.int .i64 e)→V.part y 0 (some 8)=some y→
   jR [.cell 6 (some 8),.t 7] S.length (fun r U=>r=.tup [suV s l es,.int .i64 (suE s l es)]∧Kp (fun _=>False) S U) .ret ev (Y.set (S.length+1) (.arr [y] 8 1)):=fun Y y e ev kY hy he g6 g7 hp=>by
  have h1:=kY.at b1 id;have h2:(Y.set (S.length+1) (.arr [y] 8 1))[S.length+1]?=some (.arr [y] 8 1):=qpl (glt h1);exact qf (vs:=[y,.int .i64 e]) (by simp[rvs,g6,g7,ldS,h2,hp]) ⟨by rw[hy,he];rfl,(kS.trans kY).set _ (.inr (by omega))⟩
 simp only[c81,C'.k];refine zc (fun e U=>U=S1∧e.get 1=some (.sl b (l.map .str))∧e.get 2=some (.map m)∧e.get 3=some (.ptr S.length 0 0 1)∧e.get 6=some (.ptr (S.length+1) 0 0 1)) (by rw[hS1];simp[qM,yB]) ?_;rintro e U ⟨rfl,g1,g2,g3,g6⟩;refine zc (fun e Z1=>Z1=U++[.map [] [] 0]∧e.get 8=some (.map U.length)∧e.get 1=some (.sl b (l.map .str))∧e.get 2=some (.map m)∧e.get 3=some (.ptr S.length 0 0 1)∧e.get 6=some (.ptr (S.length+1) 0 0 1)) (by simp[evX,g1,g2,g3,g6]) ?_;clear g1 g2 g3 g6 e;rintro e Z1 ⟨hV,g8,g1,g2,g3,g6⟩;have kV:Kp (fun _=>False) U Z1:=by rw[hV];exact (Kp.refl _ _).push _
 have tV:Tk U.length (fun _=>False) Z1:=⟨[],[],0,ZB.nil,by rw[hV];simp,List.nodup_nil,fun x=>by simp⟩;have lV:Z1.length=U.length+1:=by rw[hV];simp
 clear hV;refine zc (fun e X=>Kp (fun _=>False) U X∧U.length+1≤X.length∧Tk U.length (fun x=>x∈l) X∧e.get 8=some (.map U.length)∧e.get 1=some (.sl b (l.map .str))∧e.get 2=some (.map m)∧e.get 3=some (.ptr S.length 0 0 1)∧e.get 6=some (.ptr (S.length+1) 0 0 1)) ?_ ?_
 ·simp[g8,g1];refine qj (tV.add b l (by omega)) ?_;rintro r X ⟨tX,kX,lX⟩;simp[g8,g1,g2,g3,g6];refine ⟨⟨by omega,fun k hk _=>?_⟩,by omega,tX.same (by simp)⟩;rw[kX.get k (by omega) (by omega),kV.get k hk id]
 clear g8 g1 g2 g3 g6 e tV;rintro e X ⟨kX,lX,tX,g8,g1,g2,g3,g6⟩;refine zc (fun e Y=>Kp (fun _=>False) U Y∧U.length+1≤Y.length∧Tk U.length (fun x=>x∈suT l es) Y∧e.get 8=some (.map U.length)∧e.get 2=some (.map m)∧e.get 3=some (.ptr S.length 0 0 1)∧e.get 6=some (.ptr (S.length+1) 0 0 1)) ?_ ?_
 ·have mX:=kX.at m1 id;simp[evX,g2,qis,mX];obtain ⟨L,hL⟩:∃L,L=X.length:=⟨_,rfl⟩;obtain ⟨X2,hX2⟩:∃X2:St,X2=X++[.iter m ck [] ck]:=⟨_,rfl⟩;rw[←hX2,←hL];have iX2:X2[L]?=some (.iter m ck [] ck):=by rw[hX2,hL];simp
  have kX2:Kp (fun _=>False) U X2:=by rw[hX2];exact kX.push _
  have tX2:Tk U.length (fun x=>x∈l) X2:=tX.keep (by rw[hX2,qpk (by omega)]);have lX2:X2.length=L+1:=by rw[hX2,hL];simp
  clear hX2;obtain ⟨J,hJ⟩:∃J:List Nat→St→Prop,∀seen Y,J seen Y↔(Kp (fun _=>False) U Y∧L+1≤Y.length∧Y[L]?=some (.iter m ck seen ck)∧Tk U.length (fun x=>x∈l∨∃(i:Nat) (e:Ae) (b:Nat),es[i]?=some e∧bs[i]?=some b∧b∈seen∧x∈e.2.occ) Y):=⟨_,fun _ _=>Iff.rfl⟩;refine jl (L:=L) (lm:=m) (since:=ck) (bs:=bs) (es:=es.map aeT) (ck:=ck) (e0:=[(22,.ptr L 0 0 0),(8,.map U.length),(6,.ptr (S.length+1) 0 0 1),(3,.ptr S.length 0 0 1),(2,.map m)]) J
   ?_ (by simp[Opd.ev]) (by simp[hlen]) hbs.1 ((hJ _ _).2 ⟨kX2,by omega,iX2,tX2.same fun x=>by simp⟩) ?_ ?_ ?_
  ·repeat' first|exact Env.sub_nil _|refine Env.sub_cons (by simp[g8,g2,g3,g6]) ?_
  ·intro seen Y hj;obtain ⟨h1,_,h2,_⟩:=(hJ _ _).1 hj;exact ⟨⟨ck,qpo _,h2⟩,h1.at m1 id⟩
  ·intro seen Y hj hall;obtain ⟨h1,h2,h3,h4⟩:=(hJ _ _).1 hj;simp;refine ⟨h1,by omega,h4.same fun x=>?_⟩;unfold suT;rw[qpr,qqG];refine or_congr_right ⟨?_,?_⟩
   ·rintro ⟨i,e,b,hi,_,_,hx⟩;exact ⟨e,qpp hi,hx⟩
   ·rintro ⟨e,he,hx⟩;obtain ⟨i,hi⟩:=qqz.1 he;have hlt:=(qpi.1 hi).1;have hb:=qpn (l:=bs) (i:=i) (by omega);exact ⟨i,e,bs[i],hi,hb,hall _ (qpp hb),hx⟩
  ·intro seen Y i k v b' hj hk hb hn;obtain ⟨h1,h2,h3,h4⟩:=(hJ _ _).1 hj;rw[qpt,qpq] at hk;obtain ⟨e1,hi,hkv⟩:=hk;cases hkv;have hY2:(Y.set L (.iter m ck (seen++[b']) ck))[L]?=some (.iter m ck (seen++[b']) ck):=qpl (glt h3)
   have hYm:(Y.set L (.iter m ck (seen++[b']) ck))[m]?=some (.map (es.map aeT) bs ck):=by
    rw[qpm (by have:=glt m1;omega)];exact h1.at m1 id
   have hent:=qgr hY2 hYm hbs.2 (by rw[qpt,hi];rfl) hb;obtain ⟨Y2,hY2e⟩:∃Y2,Y2=Y.set L (.iter m ck (seen++[b']) ck):=⟨_,rfl⟩;have kY2:Kp (fun _=>False) U Y2:=by rw[hY2e];exact h1.set _ (.inr (by omega))
   have tY2:=h4.keep (Y:=Y2) (by rw[hY2e,qpm (by omega)]);have lY2:Y2.length=Y.length:=by rw[hY2e];simp
   rw[←hY2e] at hY2 hYm hent ⊢;clear hY2e;have hn7:V.upd (.agg [.int .i64 0,.int .i64 0,.int .i64 0,.int .i64 0,.int .i64 0,.str ⟨⟨[]⟩⟩,.sl true []]) 0 7 e1.2.v=some e1.2.v:=by rw[qi];simp
   have hea:(aeT e1).2=e1.2.v:=rfl;have hft:fits 7 [e1.2.v]=true:=by simp[fits]
   simp[evX,hent,qM,stS,hea,hn7,ldS,hft];obtain ⟨Y3,hY3⟩:∃Y3:St,Y3=Y2++[.arr [e1.2.v] 7 1]:=⟨_,rfl⟩;have kY3:Kp (fun _=>False) Y2 Y3:=by rw[hY3];exact (Kp.refl _ _).push _
   rw[←hY3];clear hY3;refine qj (qiv true [e1.2] (by have:=hz e1 (qpp hi);simp[sizes_cons,qJ];omega) Y3) ?_;rintro r Y4 ⟨M,bs2,ck2,rfl,hst2,hM,kY4,hMl⟩;have hoc:Ex.occl [e1.2]=e1.2.occ:=by simp[Ex.occl]
   rw[hoc] at hM;obtain ⟨ks2,hks2⟩:∃ks2,ks2=e1.2.occ.foldl Qr []:=⟨_,rfl⟩;rw[←hks2] at hM;have lM:=glt hM;simp[evX,qis,hM];obtain ⟨L2,hL2⟩:∃L2,L2=Y4.length:=⟨_,rfl⟩;obtain ⟨Y5,hY5⟩:∃Y5:St,Y5=Y4++[.iter M ck2 [] ck2]:=⟨_,rfl⟩;rw[←hY5,←hL2];have kY45:Kp (fun _=>False) Y4 Y5:=by rw[hY5];exact (Kp.refl _ _).push _
   have iY5:Y5[L2]?=some (.iter M ck2 [] ck2):=by rw[hY5,hL2];simp
   have k25:Kp (fun _=>False) Y2 Y5:=(kY3.trans kY4).trans kY45;have M5:=kY45.at hM id;have L5:=k25.at hY2 id;have T5:=tY2.keep (k25.get U.length (by omega) id);have l5:L2+1≤Y5.length:=by rw[hY5,hL2];simp
   have lY3:=kY3.len;clear hY5;obtain ⟨J2,hJ2⟩:∃J2:List Nat→St→Prop,∀seen2 Z,J2 seen2 Z↔(Kp (fun _=>False) U Z∧L2+1≤Z.length∧Z[L]?=some (.iter m ck (seen++[b']) ck)∧Z[M]?=some (.map (ks2.map kv) bs2 ck2)∧Z[L2]?=some (.iter M ck2 seen2 ck2)∧Tk U.length (fun x=>(x∈l∨∃(i:Nat) (e:Ae) (b:Nat),es[i]?=some e∧bs[i]?=some b∧b∈seen∧x∈e.2.occ)∨∃(i:Nat) (b:Nat),ks2[i]?=some x∧bs2[i]?=some b∧b∈seen2) Z):=⟨_,fun _ _=>Iff.rfl⟩;have hkl:(ks2.map kv).length=bs2.length:=by rw[qps,hst2.2,hoc,hks2]
   refine jl (L:=L2) (lm:=M) (since:=ck2) (bs:=bs2) (es:=ks2.map kv) (ck:=ck2) (e0:=[(30,.ptr L2 0 0 0),(22,.ptr L 0 0 0),(8,.map U.length),(6,.ptr (S.length+1) 0 0 1),(3,.ptr S.length 0 0 1),(2,.map m)]) J2
    ?_ (by simp[Opd.ev]) hkl hst2.1.1 ((hJ2 _ _).2 ⟨kY2.trans k25,l5,L5,M5,iY5,T5.same fun x=>by simp⟩) ?_ ?_ ?_
   ·exact Env.so (by simp)
   ·intro seen2 Z hj;obtain ⟨_,_,_,q1,q2,_⟩:=(hJ2 _ _).1 hj;exact ⟨⟨ck2,qpo _,q2⟩,q1⟩
   ·intro seen2 Z hj hall2;obtain ⟨q1,q2,q3,q4,q5,q6⟩:=(hJ2 _ _).1 hj;simp;refine ⟨?_,(hJ _ _).2 ⟨q1,by omega,q3,q6.same fun x=>?_⟩⟩
    ·exact Env.so (by simp)
    ·constructor
     ·rintro ((hx|⟨j,e,b2,h5,h6,h7,h8⟩)|⟨j,b2,h5,h6,h7⟩)
      ·exact .inl hx
      ·exact .inr ⟨j,e,b2,h5,h6,by simp[h7],h8⟩
      ·refine .inr ⟨i,e1,b',hi,hb,by simp,?_⟩;have:=qpp h5;rw[hks2,yy] at this;simpa using this
     ·rintro (hx|⟨j,e,b2,h5,h6,h7,h8⟩)
      ·exact .inl (.inl hx)
      ·rcases qpr.1 h7 with h7|h7
       ·exact .inl (.inr ⟨j,e,b2,h5,h6,h7,h8⟩)
       ·simp at h7;subst h7;have hij:i=j:=(List.getElem?_inj (qpi.1 hb).1 hbs.2).1 (hb.trans h6.symm);subst hij;rw[hi] at h5;cases h5;have hx2:x∈ks2:=by rw[hks2,yy];exact .inr h8
        obtain ⟨j2,hj2⟩:=qqz.1 hx2;rw[qps] at hkl;have hlt:=(qpi.1 hj2).1;have hb2:=qpn (l:=bs2) (i:=j2) (by omega);exact .inr ⟨j2,bs2[j2],hj2,hb2,hall2 _ (qpp hb2)⟩
   ·intro seen2 Z i2 k2 v2 b2 hj hk2 hb2 hn2;obtain ⟨q1,q2,q3,q4,q5,q6⟩:=(hJ2 _ _).1 hj;rw[qpt,qpq] at hk2;obtain ⟨x2,hx2,hkv2⟩:=hk2;cases hkv2;have hZ2:(Z.set L2 (.iter M ck2 (seen2++[b2]) ck2))[L2]?=some (.iter M ck2 (seen2++[b2]) ck2):=qpl (glt q5)
    have hZm:(Z.set L2 (.iter M ck2 (seen2++[b2]) ck2))[M]?=some (.map (ks2.map kv) bs2 ck2):=by
     rw[qpm (by omega)];exact q4
    have hent2:=qgr hZ2 hZm hst2.1.2 (by rw[qpt,hx2];rfl) hb2;obtain ⟨Z2,hZ2e⟩:∃Z2,Z2=Z.set L2 (.iter M ck2 (seen2++[b2]) ck2):=⟨_,rfl⟩;have kZ2:Kp (fun _=>False) U Z2:=by rw[hZ2e];exact q1.set _ (.inr (by omega))
    have tZ2:=q6.keep (Y:=Z2) (by rw[hZ2e,qpm (by omega)]);have lZ2:Z2.length=Z.length:=by rw[hZ2e];simp
    have cZ2:Z2[L]?=some (.iter m ck (seen++[b']) ck):=by rw[hZ2e,qpm (by omega)];exact q3
    rw[←hZ2e] at hZ2 hZm hent2 ⊢;clear hZ2e;have hft2:fits 1 [V.str x2]=true:=rfl;simp[evX,hent2,kv,hft2];refine qj (tZ2.add true [x2] (by simp)) ?_;rintro r Z3 ⟨tZ3,kZ3,lZ3⟩;simp;refine ⟨?_,(hJ2 _ _).2 ⟨⟨by omega,fun k hk _=>?_⟩,by omega,kZ3.at cZ2 (by omega),kZ3.at hZm (by omega),kZ3.at hZ2 (by omega),tZ3.same fun x=>?_⟩⟩
    ·exact Env.so (by simp)
    ·have:=kZ2.len;rw[kZ3.get k (by omega) (by omega),kZ2.get k hk id]
    ·rw[or_assoc];refine or_congr_right ?_;constructor
     ·rintro (⟨j,b3,h5,h6,h7⟩|h5)
      ·exact ⟨j,b3,h5,h6,by simp[h7]⟩
      ·simp at h5;subst h5;exact ⟨i2,b2,hx2,hb2,by simp⟩
     ·rintro ⟨j,b3,h5,h6,h7⟩;rcases qpr.1 h7 with h7|h7
      ·exact .inl ⟨j,b3,h5,h6,h7⟩
      ·simp at h7;subst h7;have hij:i2=j:=(List.getElem?_inj (qpi.1 hb2).1 hst2.1.2).1 (hb2.trans h6.symm);subst hij;rw[hx2] at h5;cases h5;exact .inr (by simp)
 clear g8 g1 g2 g3 g6 e tX;rintro e Y ⟨kY,lY,⟨ks,bs',ck',_,mY,nd,hks⟩,g8,g2,g3,g6⟩;obtain ⟨a,ha⟩:∃a,a=suA s l es:=⟨_,rfl⟩
 have haw:s.whole (lf (apL ks s.frees [] s.bounds))=a:=by
  rw[ha];unfold suA Sm.ap Sm.aps;rw[qbR (tk':=(suT l es).foldl Qr []) (fun x=>by rw[hks,yy];simp) (fun _=>Iff.rfl)]
 have hkl:ks.length≤(suT l es).length:=qa6 nd fun x hx=>(hks x).1 hx
 have aok:a.ok:=by rw[ha];exact s.ap_ok2 hs va hfr
 have asz:(Pa.st a).size≤4000:=by
  have:=(Sm.w_le (lf (s.aps (suT l es))) s [qd s.labels 0] (qd s.labels 0).length).1;rw[ha];exact qpV this hsz
 have anb:Sm.nb1 [a]=Sm.nb1 [s]:=by
  rw[←Sm.bounds_len,ha,suA,Sm.ap_bounds va hfr,Sm.aps_length]
 refine zc (fun e Z=>Kp (fun _=>False) U Z∧(∃A,U.length≤A∧e.get 12=some (.ptr A 0 0 1)∧Z[A]?=some (.arr [if (Pa.st a).err qb=0 then a.v else smZ] 8 1))∧e.get 13=some (.int .i64 ((Pa.st a).err qb))∧e.get 2=some (.map m)∧e.get 3=some (.ptr S.length 0 0 1)∧e.get 6=some (.ptr (S.length+1) 0 0 1)) ?_ ?_
 ·have c0:=kY.at b0 id;have d0:ldS Y (.ptr S.length 0 0 1) (some 8)=some s.v:=by simp[ldS,c0]
  simp[g8,g3,d0];refine qj (qnu s hs va hsz ks (by omega) U.length bs' ck' Y mY) ?_;rintro r Z ⟨rfl,kZ⟩;rw[haw];simp;refine qj (qiF a aok Z) ?_;rintro r Z2 ⟨rfl,kZ2⟩;have kk:=(kY.trans kZ).trans kZ2;obtain ⟨q,hq⟩:∃q,q=if (Pa.st a).err qb=0 then a.v else smZ:=⟨_,rfl⟩
  have hq2:V.upd smZ 0 8 q=some q:=by
   rw[hq];split
   ·unfold smZ;rw[qi];simp
   ·rfl
  unfold smZ at hq2;rw[←hq];simp[qM,stS,hq2,g2,g3,g6];exact ⟨kk.push _,_,kk.len,rfl,by simp⟩
 clear g8 g2 g3 g6 e;rintro e Z ⟨kZ,⟨A,hA,g12,zA⟩,g13,g2,g3,g6⟩;rw[←ha] at he;refine zc (fun e Z'=>Z'=Z∧(Pa.st a).err qb=0∧e.get 12=some (.ptr A 0 0 1)∧e.get 2=some (.map m)∧e.get 6=some (.ptr (S.length+1) 0 0 1)) ?_ ?_
 ·have z1:=kZ.at b1 id;by_cases h0:(Pa.st a).err qb=0
  ·simp[g13,h0,g12,g2,g6]
  ·rw[if_pos h0] at he;rw[he,if_neg h0] at hv;simp[g13,h0,qF,qY,stS,g6,z1,qi];refine fin _ smZ _ _ kZ hv he ?_ ?_ rfl <;> simp[g6]
 clear g12 g13 g2 g3 g6 e;rintro e Z' ⟨rfl,h0,g12,g2,g6⟩;rw[if_neg (by rw[h0];simp)] at he;rw[if_pos h0] at zA;have av:=(ye h0).2;refine zc (fun e X'=>qoW es m Z' (.tup [(e.get 14).getD .nilp,(e.get 15).getD .nilp]) X'∧e.get 12=some (.ptr A 0 0 1)∧(∃x,e.get 14=some x)∧(∃x,e.get 15=some x)∧e.get 6=some (.ptr (S.length+1) 0 0 1)) ?_ ?_
 ·simp[g2];refine qj (qm4 es m bs ck Z' (kZ.at m1 id)) ?_;rintro r X' ⟨w,cb,cg,ct,F,D,rfl,h1,h2,h3,h4,h5⟩;simp[g12,g6];exact ⟨w,cb,cg,ct,F,D,rfl,h1,h2,h3,h4,h5⟩
 clear g12 g2 g6 e;rintro e X' ⟨⟨w,cb,cg,ct,F,D,hr,h1,h2,h3,h4,h5⟩,g12,⟨x14,g14⟩,⟨x15,g15⟩,g6⟩;rw[g14,g15] at hr;simp only[qrf,V.tup.injEq,List.cons.injEq,and_true] at hr;obtain ⟨rfl,rfl⟩:=hr;have hcb:(sbC es cb m cg ct).Ok:=qmQ es cb m cg ct fun x y hy=>hz _ (Qq hy)
 obtain ⟨o,hO⟩:∃o,o=a.wholeR (sbP (lkL es)):=⟨_,rfl⟩;have hoS:suO s l es=o:=by rw[hO,ha];rfl
 have ook:o.ok:=by rw[hO];exact Sm.wholeR_ok (qiq ho) a aok
 have hF:suF s l es=sbb (a.wholeH (sbP (lkL es)) (false:Bool)):=by rw[ha];rfl
 refine zc (fun e W=>Kp (fun _=>False) U W∧(∃B,U.length≤B∧e.get 16=some (.ptr B 0 0 1)∧W[B]?=some (.arr [o.v] 8 1))∧W[cg]?=some (.arr [.bool (suF s l es)] 1 1)∧e.get 15=some (.ptr cg 0 0 1)∧e.get 6=some (.ptr (S.length+1) 0 0 1)) ?_ ?_
 ·have c0:=h5.at zA id;have d0:ldS X' (.ptr A 0 0 1) (some 8)=some a.v:=by simp[ldS,c0]
  simp[g14,g12,d0];refine qj (qco (sbC es cb m cg ct) hcb w a aok asz (false:Bool) F D X' h1 (by show Sm.nb1 [a]≤100001;omega)) ?_;rintro r W ⟨rfl,F2,D2,k2,s2⟩;have hst:Sbs es cb m cg ct (a.wholeH (sbP (lkL es)) (false:Bool)) F2 D2 W:=k2.st;have hg:W[cg]?=some (.arr [.bool (suF s l es)] 1 1):=by rw[hF];exact hst.g
  have kW:Kp (fun _=>False) U W:=⟨qpV (kZ.trans h5).len s2.k.len,fun k hk _=>by
   have q1:=kZ.len;have q2:=h5.len;rw[s2.k.get k (by omega) (by rintro (hh|hh);omega;have:=(h4 k).1 hh;omega)];exact (kZ.trans h5).get k hk id⟩
  rw[show a.wholeR (sbC es cb m cg ct).toPw=o from hO.symm];have hq2:V.upd smZ 0 8 o.v=some o.v:=by unfold smZ;rw[qi];simp
  unfold smZ at hq2;have hlt:=glt hg;simp[qM,stS,hq2,g15,g6];exact ⟨kW.push _,⟨_,kW.len,rfl,by simp⟩,by rw[qpk hlt];exact hg⟩
 clear g12 g14 g15 g6 e;rintro e W ⟨kW,⟨B,hB,g16,wB⟩,wg,g15,g6⟩;have w1:=kW.at b1 id;rw[hoS] at he hv
 cases hf:suF s l es with
 | true=>
  rw[hf] at wg;rw[hf,if_pos rfl] at he;rw[he,if_neg (by decide)] at hv;simp[g15,zQ,ldS,wg,qF,qY,stS,g6,w1,qi];refine fin _ smZ _ _ kW hv he ?_ ?_ rfl <;> simp[g6]
 | false=>
  rw[hf] at wg;rw[hf,if_neg (by simp)] at he;have d0:ldS W (.ptr B 0 0 1) (some 8)=some o.v:=by simp[ldS,wB]
  have dg:ldS W (.ptr cg 0 0 1) none=some (.bool false):=by simp[ldS,wg]
  simp[g15,zQ,dg,g16,d0];refine qj (qiF o ook W) ?_;rintro r W2 ⟨rfl,kW2⟩;have w2:=kW2.at w1 id;by_cases ho0:(Pa.st o).err qb=0
  ·rw[he,if_pos ho0] at hv;rw[ho0] at he;simp[ho0,stS,g6,w2,qi];refine fin _ o.v 0 _ (kW.trans kW2) hv he ?_ ?_ (JC _) <;> simp[g6]
  ·rw[he,if_neg ho0] at hv;simp[ho0,stS,g6,w2,qi];refine fin _ smZ _ _ (kW.trans kW2) hv he ?_ ?_ rfl <;> simp[g6]
theorem JT{l:List Bz}{n:Nat}{sc:Scs}{u:Bz}(h:u∉nms l)(g:sc.at u=none):Scs.at (qd l n::sc) u=none:=by
 unfold Scs.at
 cases ha:Sco.at (qd l n) u with
 | none=>exact g
 | some k=>
  refine absurd ?_ h;rw[qeZ n];exact qp2 (f:=(·.1)) (qc6 ha)
mutual
theorem Ex.ev_at{sc:Scs}:∀(x:Ex) (e:Oc),e∈x.ev sc→e.2=sc
 | .mk k o n m e t a,oc,h=>by
  rw[Ex.ev] at h;rcases qpr.1 h with h| h
  ·exact Ex.evl_at a oc h
  ·split at h
   ·simp at h;rw[h]
   ·cases h
theorem Ex.evl_at{sc:Scs}:∀(l:List Ex) (e:Oc),e∈Ex.evl sc l→e.2=sc
 | [],_,h=>by rw[Ex.evl] at h;cases h
 | x::l,e,h=>by
  rw[Ex.evl] at h;rcases qpr.1 h with h| h
  ·exact Ex.ev_at x e h
  ·exact Ex.evl_at l e h
end
theorem El.evl_at{sc:Scs}:∀(l:List El) (e:Oc),e∈El.evl sc l→e.2=sc
 | [],_,h=>by rw[El.evl] at h;cases h
 | x::l,e,h=>by
  rw[El.evl] at h;rcases qpr.1 h with h| h
  ·exact Ex.evl_at _ e h
  ·exact El.evl_at l e h
section
variable {u:Bz}
mutual
theorem Sm.ev_at:∀(s:Sm) (sc:Scs) (n:Nat),u∉s.bn→sc.at u=none→∀e,e∈s.ev sc n→e.2.at u=none
 | .mk l k t g e hh d b,sc,n,hu,hs,oc,ho=>by
  rw[Sm.bn] at hu;rw[Sm.ev] at ho;by_cases h7:k=7
  ·rw[if_pos h7] at hu ho;simp only[qpr,not_or] at hu;have h2:=JT (n:=n) hu.1.1 hs;rcases qpr.1 ho with ho|ho
   ·exact De.evl_at d _ _ _ hu.1.2 h2 hs oc ho
   ·exact Sm.evl_at b _ _ hu.2 h2 oc ho
  ·rw[if_neg h7] at hu ho;by_cases h8:k=8
   ·rw[if_pos h8] at hu ho;simp only[qpr,not_or] at hu;exact Sm.evl_at b _ _ hu.2 (JT (n:=n) hu.1 hs) oc ho
   ·rw[if_neg h8] at hu ho;simp only[qpr] at ho;rcases ho with (((ho|ho)|ho)|ho)|ho
    ·rw[Ex.evl_at _ _ ho];exact hs
    ·rw[Ex.evl_at _ _ ho];exact hs
    ·rw[El.evl_at _ _ ho];exact hs
    ·exact Sm.ev1_at b _ _ hu hs oc ho
    ·split at ho
     ·simp at ho;rw[ho];exact hs
     ·cases ho
theorem De.ev_at:∀(s:De) (own sc:Scs) (n:Nat),u∉s.bn→own.at u=none→sc.at u=none→∀e,e∈s.ev own sc n→e.2.at u=none
 | .mk k o t ns e fo b,own,sc,n,hu,h1,hs,oc,ho=>by
  rw[De.bn] at hu;rw[De.ev] at ho;by_cases h4:k=4
  ·rw[if_pos h4] at hu ho;simp only[qpr,not_or] at hu;exact Sm.ev1_at b _ _ hu.2 (JT (n:=n) hu.1 h1) oc ho
  ·rw[if_neg h4] at ho;rw[Ex.evl_at _ _ ho];split
   ·exact hs
   ·exact h1
theorem De.evl_at:∀(l:List De) (own sc:Scs) (n:Nat),u∉De.bnl l→own.at u=none→sc.at u=none→∀e,e∈De.evl own sc n l→e.2.at u=none
 | [],_,_,_,_,_,_,_,ho=>by rw[De.evl] at ho;cases ho
 | x::l,own,sc,n,hu,h1,hs,oc,ho=>by
  rw[De.bnl] at hu;rw[De.evl] at ho;simp only[qpr,not_or] at hu;rcases qpr.1 ho with ho|ho
  ·exact De.ev_at x own sc n hu.1 h1 hs oc ho
  ·exact De.evl_at l own sc _ hu.2 h1 hs oc ho
theorem Sm.evl_at:∀(l:List Sm) (sc:Scs) (n:Nat),u∉Sm.bnl l→sc.at u=none→∀e,e∈Sm.evl sc n l→e.2.at u=none
 | [],_,_,_,_,_,ho=>by rw[Sm.evl] at ho;cases ho
 | x::l,sc,n,hu,hs,oc,ho=>by
  rw[Sm.bnl] at hu;rw[Sm.evl] at ho;simp only[qpr,not_or] at hu;rcases qpr.1 ho with ho|ho
  ·exact Sm.ev_at x sc n hu.1 hs oc ho
  ·exact Sm.evl_at l sc _ hu.2 hs oc ho
theorem Sm.ev1_at:∀(l:List Sm) (sc:Scs) (n:Nat),u∉Sm.bn1 l→sc.at u=none→∀e,e∈Sm.ev1 sc n l→e.2.at u=none
 | [],_,_,_,_,_,ho=>by rw[Sm.ev1] at ho;cases ho
 | x::l,sc,n,hu,hs,oc,ho=>by
  rw[Sm.bn1] at hu;rw[Sm.ev1] at ho;simp only[qpr,not_or] at hu;rcases qpr.1 ho with ho|ho
  ·exact Sm.ev_at x _ _ hu.1.2 (JT (n:=n) hu.1.1 hs) oc ho
  ·exact Sm.ev1_at l sc _ hu.2 hs oc ho
end
theorem Sm.evs_at(s:Sm)(hu:u∉s.bounds):∀e,e∈s.evs→e.2.at u=none:=by
 unfold Sm.bounds at hu;simp only[qpr,not_or] at hu;exact Sm.ev_at s _ _ hu.2 (JT (sc:=[]) hu.1 rfl)
end
theorem Sm.sb_whole{lk:Lk}{g:Nat→Bz}(hg:∀k,lk (g k)=none){nm:Bz→Bool}(s:Sm)(v:(Pa.st s).valid nm=true)(hb:(s.whole g).sbad lk=false)(ha:∀x y u,lk x=some y→u∈y.occ→u∉s.bounds):(s.wholeR (sbP lk)).whole g=(s.whole g).sb lk:=by
 unfold Sm.whole Sm.wholeR at *;rw[Sm.wr_labels qb6];exact Sm.sb_w hg s _ _ v hb fun e he hn y hy u hu=>s.evs_at (ha _ _ _ hy hu) e he
theorem Sm.flag_whole{lk:Lk}{g:Nat→Bz}(hg:∀k,lk (g k)=none){nm:Bz→Bool}(s:Sm)(v:(Pa.st s).valid nm=true):sbb (s.wholeH (sbP lk) (false:Bool))=(s.whole g).sbad lk:=by
 have h1:sbb (enters (sbP lk) (false:Bool) (qd s.labels 0))=false:=Q4 (lk:=lk) (qd s.labels 0) (false:Bool);have h2:=Sm.sb_flag hg s [qd s.labels 0] (qd s.labels 0).length (enters (sbP lk) (false:Bool) (qd s.labels 0)) v;rw[h1,Bool.false_or] at h2;exact h2
section
variable {s:Sm} {l:List Bz} {es:List Ae} {g:Nat→Bz} (va:(Pa.st s).valid qb=true) (hl:s.frees.length+Sm.nb1 [s]+(suT l es).length≤899) (hg:∀k,lkL es (g k)=none)
include va hl hg
theorem qiC(ho:(Pa.st (suA s l es)).valid qb=true):suF s l es=(s.whole g).sbad (lkL es):=by
 unfold suF;rw[Sm.flag_whole hg _ ho,suA,Sm.ap_alike va hl]
theorem qnp(ho:(Pa.st (suA s l es)).valid qb=true)(hf:suF s l es=false):(suO s l es).whole g=(s.whole g).sb (lkL es):=by
 have h1:=qiC va hl hg ho;have h2:(suA s l es).whole g=s.whole g:=by rw[suA,Sm.ap_alike va hl]
 unfold suO;rw[Sm.sb_whole hg _ ho (by rw[h2,←h1,hf]) fun x y u hy hu hb=>Sm.ap_free va hl u hb ?_,h2];unfold suT;exact qpA _ (qqG.2 ⟨_,Qq hy,hu⟩)
end
def ocO(lk:Lk)(g:Nat→Bz)(e:Oc):List Bz:=match lk (zK g e.2 e.1) with
 | some y=>y.occ
 | none=>[zK g e.2 e.1]
theorem qfi{lk:Lk}(hk:∀x y,lk x=some y→y.kind=6→y.occ=[y.text]){g:Nat→Bz}{sc:Scs}{t:Bz}(hb:qgD lk (zK g sc t)=false):[sbn lk (zK g sc t)]=ocO lk g (t,sc):=by
 unfold sbn ocO qgD at *;simp only
 cases hy:lk (zK g sc t) with
 | none=>rfl
 | some y=>
  rw[hy] at hb;simp only[decide_not,Bool.not_eq_false',decide_eq_true_eq] at hb;simp only;rw[hk _ _ hy hb]
section
variable {lk:Lk} (hk:∀x y,lk x=some y→y.kind=6→y.occ=[y.text]) {g:Nat→Bz} {nm:Bz→Bool}
include hk
mutual
theorem Ex.occ_sb(sc:Scs)(tg:Bool):∀x:Ex,(Pa.ex x).valid nm=true→(x.w g sc).sbad lk tg=false→((x.w g sc).sb lk).occ=(x.ev sc).flatMap (ocO lk g)
 | .mk k o n m e t a,v,hb=>by
  have va:=Ex.valid_args v;simp only[Ex.args] at va;have h1:=(Pa.valid_iff.1 v).1;rw[Ex.w,Ex.sbad,qpK] at hb;have h2:=Ex.occ_sbl sc false a va hb.1;have hb:=hb.2;rw[Ex.w,Ex.sb,Ex.ev,qqs];by_cases h6:k=6
  ·have hn:Ex.named k=true:=by rw[h6];rfl
   have ha:a=[]:=by
    subst h6;simp[Pa.vOwn,Ex.vOwn] at h1;simp[h1]
   subst ha;rw[if_pos h6,if_pos hn,if_pos hn,Ex.evl];simp only[List.flatMap_nil,qqF,qpR,qqu];unfold ocO;simp only
   cases hy:lk (zK g sc t) with
   | none=>
    simp only;rw[Ex.occ,if_pos hn];rfl
   | some y=>rfl
  ·rw[if_neg h6] at hb ⊢;rw[Ex.occ,h2];by_cases hn:Ex.named k=true
   ·rw[if_pos hn,hn,qq8] at hb;rw[if_pos hn,if_pos hn,if_pos hn,if_pos hn,qfi hk hb];simp
   ·rw[if_neg hn,if_neg hn];simp
theorem Ex.occ_sbl(sc:Scs)(tg:Bool):∀l:List Ex,(∀x,x∈l→(Pa.ex x).valid nm=true)→Ex.sbadl lk tg (Ex.wl g sc l)=false→Ex.occl (Ex.sbl lk (Ex.wl g sc l))=(Ex.evl sc l).flatMap (ocO lk g)
 | [],_,_=>rfl
 | x::l,v,hb=>by
  rw[Ex.wl,Ex.sbadl,qpK] at hb;rw[Ex.wl,Ex.sbl,Ex.occl,Ex.evl,qqs,Ex.occ_sb sc tg x (v x (by simp)) hb.1,Ex.occ_sbl sc tg l (fun y hy=>v y (by simp[hy])) hb.2]
end
theorem El.occ_sbl(sc:Scs):∀l:List El,(∀x,x∈l→(Pa.el x).valid nm=true)→El.sbadl lk (l.map (El.w g sc))=false→El.occl ((l.map (El.w g sc)).map (El.sb lk))=(El.evl sc l).flatMap (ocO lk g)
 | [],_,_=>rfl
 | x::l,v,hb=>by
  rw[qpv,El.sbadl,qpK] at hb;have hx:(El.w g sc x).exps=Ex.wl g sc x.exps:=by unfold El.w;rw[Ex.wl_map]
  rw[hx] at hb;have h1:=Ex.occ_sbl hk sc false x.exps (fun y hy=>(Pa.valid_iff.1 (v x (by simp))).2 _ (by simp only[Pa.kids];exact qp2 hy)) hb.1;rw[qpv,qpv,El.occl,El.evl,qqs,El.occ_sbl sc l (fun y hy=>v y (by simp[hy])) hb.2,←h1,←hx];rfl
mutual
theorem Sm.occ_sb:∀(s:Sm) (sc:Scs) (n:Nat),(Pa.st s).valid nm=true→(s.w g sc n).sbad lk=false→((s.w g sc n).sb lk).occ=(s.ev sc n).flatMap (ocO lk g)
 | .mk l k t gs e hh d b,sc,n,v,hb=>by
  have vd:=Sm.valid_decls v;have vb:=Sm.valid_body v;have vg:=Sm.valid_targets v;have ve:=Sm.valid_exps v;have vl:=Sm.valid_elems v;simp only[Sm.decls,Sm.body,Sm.targets,Sm.exps,Sm.elems] at vd vb vg ve vl;rw[Sm.w] at hb;rw[Sm.ev];by_cases h7:k=7
  ·have h6:¬ k=6:=by omega
   rw[if_pos h7,Sm.sbad] at hb;simp only[qpK] at hb;simp only[Sm.w,if_pos h7];rw[Sm.sb,Sm.occ,if_pos h7,De.occ_sbl d _ _ _ vd hb.1.1.2,Sm.occ_sbl b _ _ vb hb.1.2,qqs]
  ·by_cases h8:k=8
   ·rw[if_neg h7,if_pos h8,Sm.sbad] at hb;simp only[qpK] at hb;simp only[Sm.w,if_neg h7,if_pos h8];rw[Sm.sb,Sm.occ,if_neg h7,if_pos h8,Sm.occ_sbl b _ _ vb hb.1.2]
   ·rw[if_neg h7,if_neg h8,Sm.sbad] at hb;simp only[qpK] at hb;obtain ⟨⟨⟨⟨⟨b1,b2⟩,b3⟩,_⟩,b5⟩,b6⟩:=hb;simp only[Sm.w,if_neg h7,if_neg h8];rw[Sm.sb,Sm.occ,if_neg h7,if_neg h8,Ex.occ_sbl hk sc true gs vg b1,Ex.occ_sbl hk sc false e ve b2,El.occ_sbl hk sc hh vl b3,Sm.occ_sb1 b sc n vb b5];simp only[qqs];congr 1;by_cases h6:k=6
    ·rw[if_pos h6,decide_eq_true h6,qq8] at b6;simp only[if_pos h6];rw[qfi hk b6];simp
    ·simp only[if_neg h6];rfl
theorem De.occ_sb:∀(s:De) (own sc:Scs) (n:Nat),(Pa.de s).valid nm=true→(s.w g own sc n).sbad lk=false→((s.w g own sc n).sb lk).occ=(s.ev own sc n).flatMap (ocO lk g)
 | .mk k o t ns e fo b,own,sc,n,v,hb=>by
  have vb:=De.valid_body v;have ve:=De.valid_exps v;simp only[De.body,De.exps] at vb ve;rw[De.w] at hb;rw[De.ev];by_cases h4:k=4
  ·rw[if_pos h4,De.sbad,qpK] at hb;simp only[De.w,if_pos h4];rw[De.sb,De.occ,if_pos h4,Sm.occ_sb1 b _ _ vb hb.2]
  ·rw[if_neg h4,De.sbad,qpK] at hb;simp only[De.w,if_neg h4];rw[De.sb,De.occ,if_neg h4,Ex.occ_sbl hk _ false e ve hb.1]
theorem De.occ_sbl:∀(l:List De) (own sc:Scs) (n:Nat),(∀x,x∈l→(Pa.de x).valid nm=true)→De.sbadl lk (De.wl g own sc n l)=false→De.occl (De.sbl lk (De.wl g own sc n l))=(De.evl own sc n l).flatMap (ocO lk g)
 | [],_,_,_,_,_=>rfl
 | x::l,own,sc,n,v,hb=>by
  rw[De.wl,De.sbadl,qpK] at hb;rw[De.wl,De.sbl,De.occl,De.evl,qqs,De.occ_sb x own sc n (v x (by simp)) hb.1,De.occ_sbl l own sc _ (fun y hy=>v y (by simp[hy])) hb.2]
theorem Sm.occ_sbl:∀(l:List Sm) (sc:Scs) (n:Nat),(∀x,x∈l→(Pa.st x).valid nm=true)→Sm.sbadl lk (Sm.wl g sc n l)=false→Sm.occl (Sm.sbl lk (Sm.wl g sc n l))=(Sm.evl sc n l).flatMap (ocO lk g)
 | [],_,_,_,_=>rfl
 | x::l,sc,n,v,hb=>by
  rw[Sm.wl,Sm.sbadl,qpK] at hb;rw[Sm.wl,Sm.sbl,Sm.occl,Sm.evl,qqs,Sm.occ_sb x sc n (v x (by simp)) hb.1,Sm.occ_sbl l sc _ (fun y hy=>v y (by simp[hy])) hb.2]
theorem Sm.occ_sb1:∀(l:List Sm) (sc:Scs) (n:Nat),(∀x,x∈l→(Pa.st x).valid nm=true)→Sm.sbadl lk (Sm.w1 g sc n l)=false→Sm.occl (Sm.sbl lk (Sm.w1 g sc n l))=(Sm.ev1 sc n l).flatMap (ocO lk g)
 | [],_,_,_,_=>rfl
 | x::l,sc,n,v,hb=>by
  rw[Sm.w1,Sm.sbadl,qpK] at hb;rw[Sm.w1,Sm.sbl,Sm.occl,Sm.ev1,qqs,Sm.occ_sb x _ _ (v x (by simp)) hb.1,Sm.occ_sb1 l sc _ (fun y hy=>v y (by simp[hy])) hb.2]
end
theorem Sm.occ_whole(s:Sm)(v:(Pa.st s).valid nm=true)(hb:(s.whole g).sbad lk=false):((s.whole g).sb lk).occ=s.evs.flatMap (ocO lk g):=Sm.occ_sb hk s _ _ v hb
end
def NoR(lk:Lk)(g:Nat→Bz)(e:Oc):Prop:=lk (zK g e.2 e.1)=none
theorem qbY{lk:Lk}{t:Bz}(h:lk t=none):sbn lk t=t:=by unfold sbn;rw[h]
section
variable {lk:Lk} {g:Nat→Bz}
mutual
theorem Ex.sb_no(sc:Scs):∀x:Ex,(∀e,e∈x.ev sc→NoR lk g e)→(x.w g sc).sb lk=x.w g sc
 | .mk k o n m e t a,h=>by
  rw[Ex.ev] at h;have h2:=Ex.sb_nol sc a fun e he=>h e (qpx _ he)
  rw[Ex.w,Ex.sb,h2];by_cases hn:Ex.named k=true
  ·rw[if_pos hn] at h;have h3:lk (zK g sc t)=none:=h (t,sc) (by simp);simp only[if_pos hn];rw[h3,qbY h3];split <;> rfl
  ·have h6:¬ k=6:=fun h=>hn (by rw[h];rfl)
   simp only[if_neg hn,if_neg h6]
theorem Ex.sb_nol(sc:Scs):∀l:List Ex,(∀e,e∈Ex.evl sc l→NoR lk g e)→Ex.sbl lk (Ex.wl g sc l)=Ex.wl g sc l
 | [],_=>rfl
 | x::l,h=>by
  rw[Ex.evl] at h;rw[Ex.wl,Ex.sbl,Ex.sb_no sc x fun e he=>h e (qpx _ he),Ex.sb_nol sc l fun e he=>h e (qpA _ he)]
end
theorem El.sb_nol(sc:Scs):∀l:List El,(∀e,e∈El.evl sc l→NoR lk g e)→(l.map (El.w g sc)).map (El.sb lk)=l.map (El.w g sc)
 | [],_=>rfl
 | x::l,h=>by
  rw[El.evl] at h;have h2:=Ex.sb_nol sc x.exps fun e he=>h e (qpx _ he)
  rw[qpv,qpv,El.sb_nol sc l fun e he=>h e (qpA _ he)];congr 1;unfold El.w El.sb;simp only;rw[←Ex.wl_map,h2]
mutual
theorem Sm.sb_no:∀(s:Sm) (sc:Scs) (n:Nat),(∀e,e∈s.ev sc n→NoR lk g e)→(s.w g sc n).sb lk=s.w g sc n
 | .mk l k t gs e hh d b,sc,n,h=>by
  rw[Sm.ev] at h;by_cases h7:k=7
  ·have h6:¬ k=6:=by omega
   rw[if_pos h7] at h;simp only[Sm.w,if_pos h7];rw[Sm.sb,if_neg h6,De.sb_nol d _ _ _ fun e he=>h e (qpx _ he),Sm.sb_nol b _ _ fun e he=>h e (qpA _ he)];rfl
  ·by_cases h8:k=8
   ·have h6:¬ k=6:=by omega
    rw[if_neg h7,if_pos h8] at h;simp only[Sm.w,if_neg h7,if_pos h8];rw[Sm.sb,if_neg h6,Sm.sb_nol b _ _ h];rfl
   ·rw[if_neg h7,if_neg h8] at h;simp only[Sm.w,if_neg h7,if_neg h8];rw[Sm.sb,Ex.sb_nol sc gs fun x hx=>h x (by simp[hx]),Ex.sb_nol sc e fun x hx=>h x (by simp[hx]),El.sb_nol sc hh fun x hx=>h x (by simp[hx]),Sm.sb_no1 b sc n fun x hx=>h x (by simp[hx])];by_cases h6:k=6
    ·rw[if_pos h6] at h;have h3:lk (zK g sc t)=none:=h (t,sc) (by simp);simp only[if_pos h6];rw[qbY h3];rfl
    ·simp only[if_neg h6];rfl
theorem De.sb_no:∀(s:De) (own sc:Scs) (n:Nat),(∀e,e∈s.ev own sc n→NoR lk g e)→(s.w g own sc n).sb lk=s.w g own sc n
 | .mk k o t ns e fo b,own,sc,n,h=>by
  rw[De.ev] at h;by_cases h4:k=4
  ·rw[if_pos h4] at h;simp only[De.w,if_pos h4];rw[De.sb,Sm.sb_no1 b _ _ h];rfl
  ·rw[if_neg h4] at h;simp only[De.w,if_neg h4];rw[De.sb,Ex.sb_nol _ e h];rfl
theorem De.sb_nol:∀(l:List De) (own sc:Scs) (n:Nat),(∀e,e∈De.evl own sc n l→NoR lk g e)→De.sbl lk (De.wl g own sc n l)=De.wl g own sc n l
 | [],_,_,_,_=>rfl
 | x::l,own,sc,n,h=>by
  rw[De.evl] at h;rw[De.wl,De.sbl,De.sb_no x own sc n fun e he=>h e (qpx _ he),De.sb_nol l own sc _ fun e he=>h e (qpA _ he)]
theorem Sm.sb_nol:∀(l:List Sm) (sc:Scs) (n:Nat),(∀e,e∈Sm.evl sc n l→NoR lk g e)→Sm.sbl lk (Sm.wl g sc n l)=Sm.wl g sc n l
 | [],_,_,_=>rfl
 | x::l,sc,n,h=>by
  rw[Sm.evl] at h;rw[Sm.wl,Sm.sbl,Sm.sb_no x sc n fun e he=>h e (qpx _ he),Sm.sb_nol l sc _ fun e he=>h e (qpA _ he)]
theorem Sm.sb_no1:∀(l:List Sm) (sc:Scs) (n:Nat),(∀e,e∈Sm.ev1 sc n l→NoR lk g e)→Sm.sbl lk (Sm.w1 g sc n l)=Sm.w1 g sc n l
 | [],_,_,_=>rfl
 | x::l,sc,n,h=>by
  rw[Sm.ev1] at h;rw[Sm.w1,Sm.sbl,Sm.sb_no x _ _ fun e he=>h e (qpx _ he),Sm.sb_no1 l sc _ fun e he=>h e (qpA _ he)]
end
theorem Sm.sb_no_whole(s:Sm)(h:∀e,e∈s.evs→NoR lk g e):(s.whole g).sb lk=s.whole g:=Sm.sb_no s _ _ h
end
def sE(s:Sm)(l:List Bz)(xs:List Ex):Int:=if (Pa.st s).err qb≠0 then (Pa.st s).err qb else if prE l xs≠0 then prE l xs else suE s l (l.zip xs)
def sV(s:Sm)(l:List Bz)(xs:List Ex):V:=if sE s l xs=0 then (suO s l (l.zip xs)).v else smZ
theorem qlV(s:Sm)(hs:s.ok)(hsz:(Pa.st s).size≤4000)(b b':Bool)(l:List Bz)(xs:List Ex)(hl:l.length≤1000)(hx:xs.length≤1000)(hz:∀x,x∈xs→(Pa.ex x).size≤4000)(ho:∀x,x∈xs→x.ok)
  (hfr:s.frees.length+Sm.nb1 [s]+(suT l (l.zip xs)).length≤899) (S:St):
  qt prog 32 [s.v,.sl b (l.map .str),.sl b' (xs.map Ex.v)] S (fun r U=>r=.tup [sV s l xs,.int .i64 (sE s l xs)]∧Kp (fun _=>False) S U):=by
 refine qt.ib func32 ok32 ?_;obtain ⟨S1,hS1⟩:∃S1:St,S1=S++[.arr [s.v] 8 1,.arr [smZ] 8 1]:=⟨_,rfl⟩;have b0:S1[S.length]?=some (.arr [s.v] 8 1):=by rw[hS1];simp
 have b1:S1[S.length+1]?=some (.arr [smZ] 8 1):=by rw[hS1,qpj (by omega)];simp
 have kS:Kp (fun _=>False) S S1:=by rw[hS1];exact (Kp.refl _ _).push _
 have d0:ldS S1 (.ptr S.length 0 0 1) (some 8)=some s.v:=by simp[ldS,b0]
 have he:sE s l xs=if (Pa.st s).err qb≠0 then (Pa.st s).err qb else if prE l xs≠0 then prE l xs else suE s l (l.zip xs):=rfl
 have hv:sV s l xs=if sE s l xs=0 then (suO s l (l.zip xs)).v else smZ:=rfl
 have fin:∀(Y:St) (y:V) (e:Int) (ev:Env),Kp (fun _=>False) S1 Y→sV s l xs=y→sE s l xs=e→ev.get 6=some (.ptr (S.length+1) 0 0 1)→ev.get 7=some (.int .i64 e)→V.part y 0 (some 8)=some y→
   jR [.cell 6 (some 8),.t 7] S.length (fun r U=>r=.tup [sV s l xs,.int .i64 (sE s l xs)]∧Kp (fun _=>False) S U) .ret ev (Y.set (S.length+1) (.arr [y] 8 1)):=fun Y y e ev kY hy he g6 g7 hp=>by
  have h1:=kY.at b1 id;have h2:(Y.set (S.length+1) (.arr [y] 8 1))[S.length+1]?=some (.arr [y] 8 1):=qpl (glt h1);exact qf (vs:=[y,.int .i64 e]) (by simp[rvs,g6,g7,ldS,h2,hp]) ⟨by rw[hy,he];rfl,(kS.trans kY).set _ (.inr (by omega))⟩
 simp[c32,qM];rw[←hS1];simp[d0];refine qg (qbZ s hs S1) ?_;by_cases h0:(Pa.st s).err qb=0
 case neg=>
  rw[if_pos h0] at he;rw[he,if_neg h0] at hv;simp[h0,qF,qY,stS,b1,qi];refine fin _ smZ _ _ (Kp.refl _ _) hv he ?_ ?_ rfl <;> simp
 rw[if_neg (by rw[h0];simp)] at he;have va:=(ye h0).2;simp[h0];refine qj (qmL b b' l xs hl hx ho S1) ?_;rintro r U ⟨kU,⟨hp,rfl⟩|⟨hp,m,bs,ck,hm,rfl,hst,hmU⟩⟩
 ·have c1:=kU.at b1 id;rw[if_pos hp] at he;rw[he,if_neg hp] at hv;simp[hp,qF,qY,stS,c1,qi];refine fin _ smZ _ _ kU hv he ?_ ?_ rfl <;> simp
 ·rw[if_neg (by rw[hp];simp)] at he;have c0:=kU.at b0 id;have dU:ldS U (.ptr S.length 0 0 1) (some 8)=some s.v:=by simp[ldS,c0]
  simp[dU];refine qj (qmE s hs va hsz b l (l.zip xs) hl (fun e he=>hz _ (List.of_mem_zip (a:=e.1) (b:=e.2) he).2) (fun e he=>ho _ (List.of_mem_zip (a:=e.1) (b:=e.2) he).2) hfr m bs ck hst.1 hst.2 U hmU) ?_;rintro r U2 ⟨rfl,kU2⟩;have c1:=(kU.trans kU2).at b1 id;have hvv:sV s l xs=suV s l (l.zip xs):=by rw[hv,he];rfl
  obtain ⟨y,hy⟩:∃y,y=suV s l (l.zip xs):=⟨_,rfl⟩
  have hyp:V.part y 0 (some 8)=some y∧V.upd smZ 0 8 y=some y:=by
   rw[hy];unfold suV;split
   ·exact ⟨JC _,by unfold smZ;rw[qi];simp⟩
   ·exact ⟨rfl,rfl⟩
  have hy2:=hyp.2;unfold smZ at hy2 c1;rw[←hy];simp[stS,c1,hy2];refine fin _ y _ _ (kU.trans kU2) (hvv.trans hy.symm) he ?_ ?_ hyp.1 <;> simp
mutual
theorem Ex.occ_nm{nm:Bz→Bool}:∀x:Ex,(Pa.ex x).valid nm=true→∀z,z∈x.occ→nm z=true
 | .mk k o n m e t a,v,z,hz=>by
  have va:=Ex.valid_args v;simp only[Ex.args] at va;rw[Ex.occ] at hz;rcases qpr.1 hz with hz|hz
  ·exact Ex.occl_nm a va z hz
  ·split at hz
   ·rename_i hn;simp at hz;rw[hz];exact Ex.valid_text v hn
   ·cases hz
theorem Ex.occl_nm{nm:Bz→Bool}:∀l:List Ex,(∀x,x∈l→(Pa.ex x).valid nm=true)→∀z,z∈Ex.occl l→nm z=true
 | [],_,z,hz=>by rw[Ex.occl] at hz;cases hz
 | x::l,v,z,hz=>by
  rw[Ex.occl] at hz;rcases qpr.1 hz with hz|hz
  ·exact Ex.occ_nm x (v x (by simp)) z hz
  ·exact Ex.occl_nm l (fun y hy=>v y (by simp[hy])) z hz
end
theorem Ex.occ_one{nm:Bz→Bool}{x:Ex}(v:(Pa.ex x).valid nm=true)(h:x.kind=6):x.occ=[x.text]:=by
 cases x with
 | mk k o n m e t a=>
  simp only[Ex.kind] at h;subst h;have h1:=(Pa.valid_iff.1 v).1;simp[Pa.vOwn,Ex.vOwn] at h1;have ha:a=[]:=by simp[h1]
  subst ha;rw[Ex.occ,if_pos (by rfl),Ex.occl];rfl
theorem Sm.free_ev{nm:Bz→Bool}(s:Sm)(v:(Pa.st s).valid nm=true){x:Bz}(h:x∈s.frees):∃e,e∈s.evs∧e.2.at e.1=none∧e.1=x:=by
 rw[Sm.mem_frees,Sm.fsto_evs s v] at h;obtain ⟨e,he,hx⟩:=qqG.1 h;unfold frO at hx;split at hx
 ·rename_i hn;simp at hx;exact ⟨e,he,hn,hx.symm⟩
 ·cases hx
theorem Yj{g:Nat→Bz}{e:Oc}(h:e.2.at e.1=none):zK g e.2 e.1=e.1:=by unfold zK;rw[h]
theorem Sm.frees_occ(s:Sm)(v:(Pa.st s).valid qb=true)(z:Bz):z∈s.frees↔qb z=true∧z∈(s.whole yT).occ:=by
 rw[Sm.mem_frees,Sm.free_occ (f:=yT) Qk s v,qqb,and_comm]
section
variable {s:Sm} {es:List Ae} (va:(Pa.st s).valid qb=true) (he:∀e,e∈es→qb e.1=true∧(Pa.ex e.2).valid qb=true)
include va he
theorem qcW(k:Nat):lkL es (yT k)=none:=by
 cases h:lkL es (yT k) with
 | none=>rfl
 | some y=>
  have:=(he _ (Qq h)).1;rw[Qk] at this;cases this
theorem Sm.frees_sb{t:Sm}(vt:(Pa.st t).valid qb=true)(ht:t.whole yT=(s.whole yT).sb (lkL es))(hb:(s.whole yT).sbad (lkL es)=false)(z:Bz):
  z∈t.frees↔(z∈s.frees∧lkL es z=none)∨∃y a,y∈s.frees∧lkL es y=some a∧z∈a.occ:=by
 rw[t.frees_occ vt,ht,Sm.occ_whole (lk:=lkL es) (fun x y h h6=>Ex.occ_one (he _ (Qq h)).2 h6) s va hb,qqG];constructor
 ·rintro ⟨hz,e,hev,hm⟩;unfold ocO at hm
  cases hs:e.2.at e.1 with
  | some k=>
   have hr:zK yT e.2 e.1=yT k:=by unfold zK;rw[hs]
   rw[hr,qcW va he] at hm;simp at hm;rw[hm,Qk] at hz;cases hz
  | none=>
   rw[Yj hs] at hm;have hf:=s.ev_free va hev hs
   cases hy:lkL es e.1 with
   | none=>
    rw[hy] at hm;simp at hm;rw[hm];exact .inl ⟨hf,hy⟩
   | some a=>
    rw[hy] at hm;exact .inr ⟨e.1,a,hf,hy,hm⟩
 ·rintro (⟨hz,hn⟩|⟨y,a,hy,hl,hz⟩)
  ·obtain ⟨e,h1,h2,h3⟩:=s.free_ev va hz;refine ⟨s.frees_nm va hz,e,h1,?_⟩;unfold ocO;rw[Yj h2,h3,hn];simp
  ·obtain ⟨e,h1,h2,h3⟩:=s.free_ev va hy;refine ⟨Ex.occ_nm a (he _ (Qq hl)).2 z hz,e,h1,?_⟩;unfold ocO;rw[Yj h2,h3,hl];exact hz
theorem Sm.sb_same(h:∀y,y∈s.frees→lkL es y=none):(s.whole yT).sb (lkL es)=s.whole yT:=by
 refine Sm.sb_no_whole (lk:=lkL es) s fun e hev=>?_
 unfold NoR
 cases hs:e.2.at e.1 with
 | some k=>
  have hr:zK yT e.2 e.1=yT k:=by unfold zK;rw[hs]
  rw[hr];exact qcW va he k
 | none=>rw[Yj hs];exact h _ (s.ev_free va hev hs)
end
set_option maxRecDepth 20000
noncomputable def c37:F':=⟨14,[.t 2,.t 3],.k [.B 1 0,.a 2 (.sl true []),.G 3 0] (.seq (.k [.j 5 7 1,.c 6 90 5,.m 4 6] (.k [.m 7 4,.u 8 .neq 7 0] (.d 8 (.k [.m 9 4,.a 2 (.sl true []),.m 3 9] .ret) .skip))) (.k [.j 10 7 1,.o 11 (.bsl 7 [(.t 10)]),.c 12 74 11,.c 13 86 12,.m 2 13,.G 3 0] .ret))⟩
theorem ok37:okF f37 c37:=okI
section
variable {nm:Bz→Bool} (r:Rp) (z:Bz)
end
def Ex.names(x:Ex):List Bz:=ZU ((Ex.occl [x]).foldl Qr [])
theorem Ex.names_len(x:Ex):x.names.length≤(Pa.ex x).size:=by
 unfold Ex.names;rw[yz];have h1:=Zp (l:=Ex.occl [x]) (ks:=[]);have h2:=Ex.occ_len x;simp only[Ex.occl,qqu,qqj] at h1 ⊢;omega
theorem qnn(x:Ex)(hx:x.ok)(hsz:(Pa.ex x).size≤3900)(S:St):
  qt prog 37 [x.v] S (fun r U=>r=.tup [.sl (decide ((Pa.ex x).err qb≠0)) ((if (Pa.ex x).err qb=0 then x.names else []).map .str),.int .i64 ((Pa.ex x).err qb)]∧Kp (fun _=>False) S U):=by
 refine qt.ib func37 ok37 ?_;obtain ⟨S1,hS1⟩:∃S1:St,S1=S++[.arr [x.v] 7 1]:=⟨_,rfl⟩;have b0:S1[S.length]?=some (.arr [x.v] 7 1):=by rw[hS1];simp
 have kS:Kp (fun _=>False) S S1:=by rw[hS1];exact (Kp.refl _ _).push _
 simp[c37,qM];rw[←hS1];simp[ldS,b0];refine qg (qih x hx S1) ?_;by_cases he:(Pa.ex x).err qb=0
 ·simp[he,ldS,b0,Ex.fits1];refine qj (qiv true [x] (by simp[sizes_cons,qJ];omega) S1) ?_;rintro r U ⟨m,bs,ck,rfl,hst,hm,kU,_⟩;simp;refine qj (qiB m _ bs ck U hm hst.1 (Qy List.nodup_nil) ?_ ?_) ?_
  ·have h1:=x.names_len;unfold Ex.names at h1;rw[yz] at h1;omega
  ·intro z hz;rw[yy] at hz;exact qpV (Ex.occl_ok [x] ⟨hx,trivial⟩ z (hz.elim (fun h=>by simp at h) id)) (by decide)
  ·rintro r U2 ⟨rfl,rfl⟩;simp;exact qf rfl ⟨rfl,kS.trans kU⟩
 ·simp[he];exact qf rfl ⟨rfl,kS⟩
theorem qbl{y:Bz}{x:Ex}:prE [y] [x]=0↔qb y=true∧(Pa.ex x).err qb=0:=by
 unfold prE Jn qgH qgH;by_cases h:qb y=true
 ·by_cases g:(Pa.ex x).err qb=0 <;> simp[h,g]
 ·have:qb y=false:=by simpa using h
  simp[this]
theorem qkL{s:Sm}{l:List Bz}{xs:List Ex}(h:sE s l xs=0):(Pa.st s).err qb=0∧prE l xs=0∧(Pa.st (suA s l (l.zip xs))).err qb=0∧suF s l (l.zip xs)=false∧(Pa.st (suO s l (l.zip xs))).err qb=0:=by
 unfold sE at h;by_cases h0:(Pa.st s).err qb=0
 case neg=>rw[if_pos h0] at h;exact absurd h h0
 rw[if_neg (by rw[h0];simp)] at h;by_cases h1:prE l xs=0
 case neg=>rw[if_pos h1] at h;exact absurd h h1
 rw[if_neg (by rw[h1];simp)] at h;unfold suE at h;by_cases h2:(Pa.st (suA s l (l.zip xs))).err qb=0
 case neg=>rw[if_pos h2] at h;exact absurd h h2
 rw[if_neg (by rw[h2];simp)] at h
 cases h3:suF s l (l.zip xs) with
 | true=>rw[h3] at h;simp at h
 | false=>
  rw[h3] at h;exact ⟨h0,h1,h2,rfl,by simpa using h⟩
theorem qiE{s:Sm}{y:Bz}{x:Ex}(h:sE s [y] [x]=0):(Pa.st s).err qb=0∧prE [y] [x]=0∧(Pa.st (suA s [y] [(y,x)])).err qb=0∧suF s [y] [(y,x)]=false∧(Pa.st (suO s [y] [(y,x)])).err qb=0:=qkL h
def qne(es:List Ae):Prop:=∀e,e∈es→qb e.1=true∧(Pa.ex e.2).valid qb=true
theorem qne.one{y:Bz}{x:Ex}(h:prE [y] [x]=0):qne [(y,x)]:=fun e he=>by
 simp only[qql] at he;subst he;exact ⟨(qbl.1 h).1,(ye (qbl.1 h).2).2⟩
theorem qne.lk{es:List Ae}(h:qne es)(k:Nat):lkL es (yT k)=none:=by
 cases hl:lkL es (yT k) with
 | none=>rfl
 | some y=>
  have:=(h _ (Qq hl)).1;rw[Qk] at this;cases this
theorem qpb(s:Sm)(l:List Bz)(xs:List Ex):(sV s l xs).size=8∧(sV s l xs).cells.all V.flat=true∧V.part (sV s l xs) 0 (some 8)=some (sV s l xs):=by
 unfold sV;split
 ·exact ⟨Sm.v_size _,by simp,JC _⟩
 ·exact ⟨rfl,rfl,rfl⟩
theorem qkB(s:Sm)(os:s.ok)(zs:(Pa.st s).size≤4000)(y:Bz)(x:Ex)(U:St)(ox:x.ok)(zx:(Pa.ex x).size≤4000)(hl:s.frees.length+Sm.nb1 [s]+(suT [y] [(y,x)]).length≤899):
  qt prog 32 [s.v,.sl true [.str y],.sl true [x.v]] U (fun r U'=>r=.tup [sV s [y] [x],.int .i64 (sE s [y] [x])]∧Kp (fun _=>False) U U'):=
 qlV s os zs true true [y] [x] (by simp) (by simp) (fun z hz=>by simp at hz;rw[hz];exact zx) (fun z hz=>by simp at hz;rw[hz];exact ox) hl U
theorem qnf(s:Sm)(y:Bz)(x:Ex)(os:s.ok)(ox:x.ok)(va:(Pa.st s).valid qb=true)(hl:s.frees.length+Sm.nb1 [s]+(suT [y] [(y,x)]).length≤899):(suO s [y] [(y,x)]).ok:=
 Sm.wholeR_ok (qiq (fun e he=>by simp at he;rw[he];exact ox)) _ (Sm.ap_ok2 s os va hl)
theorem Sm.nb1_le(t:Sm):Sm.nb1 [t]≤(Pa.st t).size:=by
 have h2:=Sm.nb1_size [t];simp at h2;omega
theorem Sm.frees_len0(s:Sm):s.frees.length≤(Pa.st s).size:=by
 unfold Sm.frees;rw[yz];have h1:=Zp (l:=yd (s.wholeH coP coZ)) (ks:=[]);have h2:=s.frees_len;simp only[qqj] at h1;omega
theorem qhX{a b:Sm}(va:(Pa.st a).valid qb=true)(vb:(Pa.st b).valid qb=true)(h:a.wholeR (nuP yT)=b.wholeR (nuP yT)):a.frees=b.frees:=by
 rw[Q8 va,Q8 vb] at h;unfold Sm.frees;rw[Sm.free_occ (f:=yT) Qk a va,Sm.free_occ (f:=yT) Qk b vb,h]
theorem Ex.mem_names{x:Ex}{z:Bz}:z∈x.names↔z∈x.occ:=by
 unfold Ex.names;rw[Zi,yy];simp[Ex.occl]
def qcX(l:List Bz)(y:Bz):List Bz:=l.filter fun z=>!decide (z=y)
theorem qfM(l:List Bz)(y:Bz):(qcX l y).length≤l.length:=List.length_filter_le _ _
theorem qfk{l:List Bz}{y:Bz}{i:Nat}(h:i<l.length):qcX (l.take (i+1)) y=qcX (l.take i) y++if l[i]=y then [] else [l[i]]:=by
 unfold qcX;rw[qpI,qpn h,qqd,qqD];by_cases g:l[i]=y <;> simp[g]
theorem qaD{l:List Bz}{y:Bz}:(qcX l y).length=l.length↔y∉l:=by
 unfold qcX;rw[List.length_filter_eq_length_iff];constructor
 ·intro h hm;have:=h y hm;simp at this
 ·intro h a ha;simp only[qq2,decide_eq_false_iff_not];exact fun e=>h (e ▸ ha)
theorem qed{s:Sm}{y:Bz}{x:Ex}(h:sE s [y] [x]=0)(hl:s.frees.length+Sm.nb1 [s]+(suT [y] [(y,x)]).length≤899):
  (y∉s.frees→s.wholeR (nuP yT)=(suO s [y] [(y,x)]).wholeR (nuP yT)∧(suO s [y] [(y,x)]).frees=s.frees)∧
  (y∈s.frees→(qcX s.frees y++x.names).foldl YT []=(suO s [y] [(y,x)]).frees):=by
 obtain ⟨h0,hp,ha,hf,ho⟩:=qiE h;have va:=(ye h0).2;have he:=qne.one hp;have hA:=(ye ha).2;have vo:=(ye ho).2;have hw:(suO s [y] [(y,x)]).whole yT=(s.whole yT).sb (lkL [(y,x)]):=qnp va hl he.lk hA hf;have hb:(s.whole yT).sbad (lkL [(y,x)])=false:=by rw[←qiC va hl he.lk hA];exact hf
 have lk1:∀z,lkL [(y,x)] z=if y=z then some x else none:=fun z=>rfl
 refine ⟨fun hy=>?_,fun hy=>?_⟩
 ·have hs:(suO s [y] [(y,x)]).wholeR (nuP yT)=s.wholeR (nuP yT):=by
   rw[Q8 vo,Q8 va];refine hw.trans (Sm.sb_same va he fun z hz=>?_);rw[lk1,if_neg (fun e:y=z=>hy (e ▸ hz))]
  exact ⟨hs.symm,qhX vo va hs⟩
 ·have h2:=fun z=>Sm.frees_sb va he vo hw hb z
  unfold Sm.frees at h2 ⊢;refine qbK (Qy List.nodup_nil) fun z=>?_
  have h3:=h2 z;rw[Zi] at h3;rw[h3,qpr,Ex.mem_names];unfold qcX;rw[qqb];constructor
  ·rintro (⟨h4,h5⟩|h4)
   ·simp only[qq2,decide_eq_false_iff_not] at h5;exact .inl ⟨h4,by rw[lk1,if_neg (fun e:y=z=>h5 e.symm)]⟩
   ·exact .inr ⟨y,x,hy,by rw[lk1,if_pos rfl],h4⟩
  ·rintro (⟨h4,h5⟩|⟨w,a,h4,h5,h6⟩)
   ·refine .inl ⟨h4,?_⟩;rw[lk1] at h5;split at h5
    ·cases h5
    ·rename_i hn;simp only[qq2,decide_eq_false_iff_not];exact fun e=>hn e.symm
   ·rw[lk1] at h5;split at h5
    ·cases h5;exact .inr h6
    ·cases h5
set_option maxRecDepth 20000
noncomputable def c11:F':=⟨118,[.t 6],.k [.B 3 0,.B 5 2,.F 6] (.seq (.k [.j 19 8 3,.c 20 17 19,.o 21 (.un .not (.t 20)),.m 22 21,.v 23 22 false (.ld (some 7) (.t 5)),.v 24 22 false (.bsl 7 [(.t 23)]),.v 25 22 false (.call (.f 26) [(.t 24)]),.v 26 22 false (.un .not (.t 25)),.z 27 22 26] (.d 27 (.k [.o 28 (.call (.f 18) []),.m 6 28] .ret) .skip)) (.k [.j 30 8 3,.m 31 1,.o 32 (.bsl 1 [(.t 31)]),.j 33 7 5,.o 34 (.bsl 7 [(.t 33)]),.x 35 32 30 32 34,.m 29 35,.e 36 0 29,.e 37 1 29,.o 7 (.new zS),.s 8 7 36,.m 8 37] (.seq (.k [.m 38 8,.u 39 .neq 38 0] (.d 39 (.k [.o 40 (.call (.f 18) []),.m 6 40] .ret) .skip)) (.k [.j 42 8 3,.c 43 29 42,.m 41 43,.e 44 0 41,.e 45 1 41,.m 9 44,.m 10 45] (.k [.j 47 8 7,.c 48 29 47,.m 46 48,.e 49 0 46,.e 50 1 46,.m 11 49,.m 12 50] (.k [.j 52 7 5,.c 53 37 52,.m 51 53,.e 54 0 51,.e 55 1 51,.m 13 54,.m 14 55] (.seq (.k [.m 56 10,.u 57 .neq 56 0,.m 58 57,.V 59 58 false 12,.v 60 58 false (.bin .neq (.t 59) (.c z0)),.z 61 58 60,.m 62 61,.V 63 62 false 14,.v 64 62 false (.bin .neq (.t 63) (.c z0)),.z 65 62 64] (.d 65 (.k [.F 6] .ret) .skip)) (.k [.a 15 (.sl true [])] (.seq (.k [.G 16 0] (.block 0 (.loop (.seq (.k [.m 66 16,.m 67 9,.L 68 67,.b 69 .lss 66 68] (.d 69 .skip (.exit 0))) (.seq (.block 1 (.k [.m 72 9,.m 73 16,.i 74 1 72 73,.l 75 74,.m 76 1,.b 77 .neq 75 76] (.d 77 (.reg [.m 78 15,.m 79 9,.m 80 16,.i 81 1 79 80,.l 82 81,.o 83 (.bsl 1 [(.t 82)]),.o 84 (.app 1 16 (.t 78) (.t 83)),.m 15 84]) .skip))) (.reg [.m 70 16,.u 71 .add 70 1,.m 16 71])))))) (.seq (.k [.m 85 15,.L 86 85,.m 87 9,.L 88 87,.b 89 .eql 86 88] (.d 89 (.k [.j 91 8 3,.j 92 8 7,.w 93 24 91 92,.m 90 93,.e 94 0 90,.e 95 1 90,.m 17 94,.m 18 95] (.k [.o 96 (.call (.f 18) []),.m 97 96,.V 98 97 true 18,.v 99 97 true (.bin .eql (.t 98) (.c z0)),.y 100 97 99,.m 101 100,.V 102 101 true 17,.y 103 101 102,.m 104 103,.V 105 104 true 11,.V 106 104 true 9,.v 107 104 true (.call (.f 30) [(.t 105),(.t 106)]),.y 108 104 107,.m 6 108] .ret)) .skip)) (.k [.o 109 (.call (.f 18) []),.m 110 109,.V 111 110 true 11,.V 112 110 true 15,.V 113 110 true 13,.v 114 110 true (.app 1 16 (.t 112) (.t 113)),.v 115 110 true (.call (.f 42) [(.t 114)]),.v 116 110 true (.call (.f 30) [(.t 111),(.t 115)]),.y 117 110 116,.m 6 117] .ret)))))))))))⟩
theorem ok11:okF f11 c11:=okI
structure Wq(l:List Bz)(y:Bz)(S:St)(i:Nat)(ov:V)(U:St):Prop where
 g:Gr 1 S.length ((qcX (l.take i) y).map .str) ov U
 k:Kp (fun _=>False) S U
open Classical in
theorem qlW(s:Sm)(y:Bz)(x:Ex)(os:s.ok)(ox:x.ok):Fn prog 11 [s.v,.str y,x.v] [] (.bool true):=by
 refine qt.ib func11 ok11 ?_;obtain ⟨S1,hS1⟩:∃S1:St,S1=[.arr [s.v] 8 1,.arr [x.v] 7 1]:=⟨_,rfl⟩;have b0:S1[0]?=some (.arr [s.v] 8 1):=by rw[hS1];rfl
 have b1:S1[1]?=some (.arr [x.v] 7 1):=by rw[hS1];rfl
 have ld:∀{U:St},Kp (fun _=>False) S1 U→ldS U (.ptr 0 0 0 1) (some 8)=some s.v∧ldS U (.ptr 1 0 0 1) (some 7)=some x.v:=fun k=>by
  have c0:=k.at b0 id;have c1:=k.at b1 id;simp[ldS,c0,c1]
 obtain ⟨d0,d1⟩:=ld (Kp.refl _ S1);simp[c11,qM];rw[←hS1];simp[d0];refine qg (qnl s os S1) ?_
 cases la:s.light with
 | false=>
  simp;refine qg (qah S1) ?_;simp;exact qa rfl rfl rfl
 | true=>
 have q26:Fn prog 26 [.sl true [x.v]] S1 (.bool (decide (0<Ex.leftL [x] 0 60))):=qt.weakA (by
  have:=qmC [x] (by simp[B50]) ⟨ox,trivial⟩ S1;simpa[V.weakL,V.weak,Ex.v_weak] using this)
 simp[d1,Ex.fits1];refine qg q26 ?_;by_cases hx:0<Ex.leftL [x] 0 60
 case neg=>
  simp[hx];refine qg (qah S1) ?_;simp;exact qa rfl rfl rfl
 have zs:=jN la;have ns:=qmI la;have lf:=s.frees_len0
 have zx:(Pa.ex x).size<60:=by
  have:=Ex.leftL_size [x] 0 60 hx;have h0:qJ []=0:=rfl;rw[qpv,qqw,sizes_cons,h0] at this;omega
 have oc:=Ex.occ_len x;have tx:(suT [y] [(y,x)]).length=1+x.occ.length:=by simp[suT];omega
 have hl:s.frees.length+Sm.nb1 [s]+(suT [y] [(y,x)]).length≤899:=by omega
 have fs:fits 1 [V.str y]=true:=rfl;simp[hx,d0,d1,Ex.fits1,fs];refine qj (qkB s os (by omega) y x S1 ox (by omega) hl) ?_;rintro r U1 ⟨rfl,k1⟩;obtain ⟨z,hz⟩:∃z,z=sV s [y] [x]:=⟨_,rfl⟩;have z8:=qpb s [y] [x];rw[←hz] at z8 ⊢;have hst1:stS (U1++[.arr [smZ] 8 1]) (.ptr U1.length 0 0 1) 8 z=some (U1++[.arr [z] 8 1]):=by simp[stS,qi,z8]
 simp only[smZ] at hst1;have k2:=k1.push [.arr [z] 8 1];obtain ⟨p0,p1⟩:=ld k2;simp[qM,hst1,p0];obtain ⟨U2,hU2⟩:∃U2,U2=U1++[.arr [z] 8 1]:=⟨_,rfl⟩;have by2:U2[U1.length]?=some (.arr [z] 8 1):=by rw[hU2];simp
 rw[←hU2] at k2 p0 p1 ⊢;by_cases es:sE s [y] [x]=0
 case neg=>
  simp[es];refine qg (qah U2) ?_;simp;exact qa rfl rfl rfl
 have hv:z=(suO s [y] [(y,x)]).v:=by rw[hz];exact if_pos es
 obtain ⟨h0,hp,ha,hf,ho⟩:=qiE es;have ot:=qnf s y x os ox (ye h0).2 hl;obtain ⟨law1,law2⟩:=qed es hl;obtain ⟨t,ht⟩:∃t,t=suO s [y] [(y,x)]:=⟨_,rfl⟩;rw[←ht] at hv ho ot law1 law2;have zt:=(ye ho).1.1;have nt:Sm.nb1 [t]≤100000:=by have:=t.nb1_le;omega
 have ex:=(qbl.1 hp).2;simp[es,p0];refine qj (qiw s os (by omega) (by omega) U2) ?_;rintro r U3 ⟨rfl,k3⟩;have by3:=k3.at by2 id;have l3:ldS U3 (.ptr U1.length 0 0 1) (some 8)=some t.v:=by rw[←hv];simp[ldS,by3,z8]
 have k3:=k2.trans k3;obtain ⟨p0,p1⟩:=ld k3;simp[h0,l3];refine qj (qiw t ot (by omega) nt U3) ?_;rintro r U4 ⟨rfl,k4⟩;have by4:=k4.at by3 id
 have l4:∀{U:St},Kp (fun _=>False) U4 U→ldS U (.ptr U1.length 0 0 1) (some 8)=some t.v:=fun k=>by
  have c:=k.at by4 id;rw[←hv];simp[ldS,c,z8]
 have k4:=k3.trans k4;obtain ⟨p0,p1⟩:=ld k4;simp[ho,p1];refine qj (qnn x ox (by omega) U4) ?_;rintro r U5 ⟨rfl,k5⟩;have ld5:∀{U:St},Kp (fun _=>False) U5 U→ldS U (.ptr 0 0 0 1) (some 8)=some s.v∧ldS U (.ptr U1.length 0 0 1) (some 8)=some t.v:=fun k=>⟨(ld ((k4.trans k5).trans k)).1,l4 (k5.trans k)⟩
 have lxn:=x.names_len;have lft:=t.frees_len0;simp[h0,ho,ex];refine qO (fun e U=>∃ov,Wq s.frees y U5 s.frees.length ov U∧e.get 15=some ov∧e.get 3=some (.ptr 0 0 0 1)∧e.get 7=some (.ptr U1.length 0 0 1)∧e.get 9=some (.sl false (s.frees.map .str))∧e.get 11=some (.sl false (t.frees.map .str))∧e.get 13=some (.sl false (x.names.map .str))) ?_ ?_
 ·refine qw (fun j e U=>∃(i:Nat) (ov:V),j=s.frees.length - i∧i≤s.frees.length∧Wq s.frees y U5 i ov U∧e=[(16,.int .i64 i),(15,ov),(1,.str y),(3,.ptr 0 0 0 1),(7,.ptr U1.length 0 0 1),(9,.sl false (s.frees.map .str)),(11,.sl false (t.frees.map .str)),(13,.sl false (x.names.map .str))]) s.frees.length _ ?_ ⟨0,.sl true [],by simp,by omega,⟨Gr.nil _ _ _,Kp.refl _ _⟩,rfl⟩ ?_
  ·exact Env.so (by simp)
  rintro j e U ⟨i,ov,rfl,hi,hq,rfl⟩;by_cases h:i<s.frees.length
  case neg=>
   have:i=s.frees.length:=by omega
   subst this;simp;exact hq
  have hbn:=qfk (l:=s.frees) (y:=y) h;have hbl:=qfM (s.frees.take i) y;have htl:=List.length_take_le i s.frees;have hU:=hq.k.len;simp[h,Zx];by_cases hy:s.frees[i]=y
  ·rw[if_pos hy,qqu] at hbn;simp[hy,Yc,Qe,QN];rw[ze (n:=(i:Int)+1)];refine ⟨_,?_,_,?_,i+1,rfl,by omega,ov,⟨by rw[hbn];exact hq.g,hq.k⟩,rfl⟩
   ·omega
   ·exact Env.so (by simp)
  ·rw[if_neg hy] at hbn;obtain ⟨v',U',ha',hg',hl',hk'⟩:=hq.g.app1 (bytes:=16) (b:=true) (y:=.str s.frees[i]) rfl (by rw[qps];omega) hU;have hfs:fits 1 [V.str s.frees[i]]=true:=rfl;have hkk:Kp (fun _=>False) U5 U':=⟨by omega,fun l hl hn=>by rw[hk' l hl];exact hq.k.get l hl hn⟩;simp[h,hy,Zx,hfs,ha',Yc,Qe,QN];rw[ze (n:=(i:Int)+1)];refine ⟨_,?_,_,?_,i+1,rfl,by omega,v',⟨by rw[hbn,qpH];exact hg',hkk⟩,rfl⟩
   ·omega
   ·exact Env.so (by simp)
 rintro e U ⟨ov,⟨hg,hk⟩,g15,g3,g7,g9,g11,g13⟩;rw[qp9] at hg;obtain ⟨p0,pt⟩:=ld5 hk;have hbl:=qfM s.frees y;obtain ⟨hlen,_⟩:=hg.rd;obtain ⟨hlf,_⟩:=Rd.sl false s.frees U;by_cases hy:y∈s.frees
 ·have hne:¬ (qcX s.frees y).length=s.frees.length:=fun h=>qaD.1 h hy
  have hne':¬ ((qcX s.frees y).length:Int)=s.frees.length:=by omega
  obtain ⟨v',U',ha',hg',hl',hk',_⟩:=hg.appE (bytes:=16) (x:=.sl false (x.names.map .str)) (ys:=x.names.map .str) rfl (by simp[fits,V.size]) (by rw[qps,qps];omega) hk.len;rw[←qpH] at hg';simp[g15,g9,g11,g13,↓zW,hlen,hlf,hne'];refine qg (qah U) ?_;simp[g15,g9,g11,g13,ha'];refine qj (qmA v' (qcX s.frees y++x.names) (by rw[qpw];omega) U' (fun W hW=>?_)) ?_
  ·have:Gr 1 U5.length ((qcX s.frees y++x.names).map .str) v' W:=hg'.keep fun l _ h2=>hW.get l h2 id
   exact this.rd
  rintro r W ⟨rfl,kW⟩;rw[law2 hy];simp[g11];refine qg (qgj _ _ t.frees t.frees (by omega) (by omega) W) ?_;simp;exact qa rfl rfl rfl
 ·have heq:(qcX s.frees y).length=s.frees.length:=qaD.2 hy;rw[heq] at hlen;obtain ⟨w1,w2⟩:=law1 hy
  have hn:∀U,qt prog 24 [s.v,t.v] U _:=fun U=>qnw s t os ot (by omega) (by omega) (by omega) nt (fun h=>by
   rw[Q8 (ye h).2];exact Sm.whole_ok (f:=yT) (N:=1000) (fun k hk=>qe1 k hk) s (by omega) os) U
  simp[g15,g9,g3,g7,↓zW,hlen,hlf,p0,pt];refine qj (hn U) ?_;rintro r W ⟨rfl,kW⟩;simp[h0,ho,w1];refine qg (qah W) ?_;simp[g9,g11,yl,eqV];rw[w2];refine qg (qgj _ _ s.frees s.frees (by omega) (by omega) W) ?_;simp;exact qa rfl rfl rfl
end Go.Proofs.YtbifpocccfkhhaaGreatDoor
namespace Go.Proofs.YtbifpocccfkhhaaGreatDoor.copyFrees
open Go Go.ChangeShapes Go.WideShapes Go.ChangeAt Go.RowKit
set_option maxRecDepth 100000
theorem own:ownKnob Tryz.prog.godebug=none:=by kernel_rfl
theorem contract(H:Type)(enc:TypeId×Value→H)(W:World)(base:Nat)(args:Array Value)(ds gs:List (DataW H))(before:List MemPlace)
  (hval:∀(j:Nat) t v,Tryz.f11.params[j]?=some t→args[j]?=some v→Value.okWide Tryz.prog W .any base t v)
  (hW:DataW.Whole enc Tryz.prog Tryz.f11.params.toList Rows.copyFreesSpec.vars false W args.toList ds gs before)
  (hwt:(DataW.weightsEach Tryz.prog (Tryz.f11.params.toList++(OpenSpec.ofChange Rows.copyFreesSpec).bare.plain.varTypes Tryz.prog) (ds++gs)).all (·≤reachBytes)=true) (hL:laidMetH Tryz.prog Rows.copyFreesRow.laid W):
  Calls Tryz.prog 11 args W fun e W'=>∃v,e=.returned v∧Rows.copyFreesSpec.post enc Tryz.prog Tryz.f11 false true false false W args v W':=by
 have hW':=hW;obtain ⟨p,q,hA0,hV,rfl,hfz,hnd⟩:=hW;have hA:DataW.TrodAll enc Tryz.prog W 0 (fun _=>true) true Tryz.f11.params.toList args.toList ds p:=hA0;rw[Tryz.params11] at hA hval hwt;obtain ⟨v0,vs0,d0,ds0,p0,q0,hv0,hd0,h0,hA0⟩:=trodAll_cons hA;obtain ⟨v1,vs1,d1,ds1,p1,q1,hv1,hd1,h1,hA1⟩:=trodAll_cons hA0;obtain ⟨v2,vs2,d2,ds2,p2,q2,hv2,hd2,h2,hA2⟩:=trodAll_cons hA1;obtain ⟨hve,hde⟩:=trodAll_nil hA2;have hds:ds=[d0,d1,d2]:=by rw[hd0,hd1,hd2,hde]
 have hargs:args=#[v0,v1,v2]:=by
  apply qre.1;rw[hv0,hv1,hv2,hve]
 subst hds hargs;obtain ⟨rfl,rfl⟩:=trodVars_none hV;rw[qqu] at hwt;obtain ⟨a0,o0,r0⟩:=stmt_in (hval 0 28 v0 rfl rfl) h0 (fitw_of hwt (i:=0) rfl rfl);obtain ⟨a1,o1,r1⟩:=text_in (hval 1 9 v1 rfl rfl) h1 (fitw_of hwt (i:=1) rfl rfl);obtain ⟨a2,o2,r2⟩:=exp_in (hval 2 54 v2 rfl rfl) h2 (fitw_of hwt (i:=2) rfl rfl);refine law_of (qlW a0 a1 a2 o0 o2) (SR.start hL) ⟨rfl,fun i v u hv hu=>?_⟩ (by kernel_rfl) rfl rfl hW' rfl
 match i,hv,hu with
 | 0,hv,hu=>cases hv;cases hu;exact r0
 | 1,hv,hu=>cases hv;cases hu;exact r1
 | 2,hv,hu=>cases hv;cases hu;exact r2
noncomputable def laidWorld(os:Os):World:=
 let N:=(World.settled Tryz.prog os).heap.size
 let w0:=World.holding Tryz.prog os ⟨#[.cells (#[9,13,1,32,133,101,160,5760,5600,8192,8202,1,8232,8233,1,8239,8287,48,12288,12288,1].map fun (z:Nat)=>Value.int .u16 (z:Int)) 279,.cells #[.slice (some ⟨N,0,none⟩) 7 7,.slice none 0 0,.int .i64 2] 276],#[],[]⟩
 let put (h:Array Obj) (g:Nat) (cs:Array Value):Array Obj:=h.modify g fun
  | .cells _ t frozen=>.cells cs t frozen
  | o=>o
 let h1:=put w0.heap 0 (Lib.asciiSpaceTab.map fun z=>Value.int .u8 z).toArray
 let h2:=put h1 1 #[.pointer (some ⟨N+1,0,none⟩)]
 let h3:=put h2 2 (Lib.pow10Tab.map fun z=>Value.int .u64 z).toArray
 let h4:=put h3 3 (#[0,1,28,2,29,14,24,3,30,22,20,15,25,17,4,8,31,27,13,23,21,19,16,7,26,12,18,6,11,5,10,9].map fun (z:Nat)=>Value.int .u8 (z:Int))
 let h5:=put h4 4 (#[0,1,56,2,57,49,28,3,61,58,42,50,38,29,17,4,62,47,59,36,45,43,51,22,53,39,33,30,24,18,12,5,63,55,48,27,60,41,37,16,46,35,44,21,52,32,23,11,54,26,40,15,34,20,31,10,25,14,19,9,13,8,7,6].map fun (z:Nat)=>Value.int .u8 (z:Int))
 { w0 with heap:=h5 }
def wArgs:Array Value:=#[.agg #[.slice none 0 0,.int .i64 0,.string ⟨#[]⟩,.slice none 0 0,.slice none 0 0,.slice none 0 0,.slice none 0 0,.slice none 0 0],.string ⟨#[]⟩,.agg #[.int .i64 0,.int .i64 0,.int .i64 0,.int .i64 0,.int .i64 0,.string ⟨#[]⟩,.slice none 0 0]]
theorem laid_met(os:Os):laidMet Tryz.prog Rows.copyFreesRow.laid ((laidWorld os).forCall (fun _ _=>0) ⟨#[],wArgs,[]⟩).memory:=
 laidMet_of_run' 10 (by kernel_rfl) (by kernel_rfl)
theorem reads(os:Os){H:Type}(enc:TypeId×Value→H):∃places,DataW.whole enc Tryz.prog ((laidWorld os).forCall (fun _ _=>0) ⟨#[],wArgs,[]⟩).memory Tryz.f11.params.toList Rows.copyFreesSpec.vars false wArgs.toList 8=some ([.agg [.nil,.lit (.int .i64 0),.lit (.string []),.nil,.nil,.nil,.nil,.nil],.lit (.string []),.agg [.lit (.int .i64 0),.lit (.int .i64 0),.lit (.int .i64 0),.agg [.lit (.int .i64 0),.lit (.int .i64 0)],.lit (.string []),.nil]],[],places):=
 ⟨[],by kernel_rfl⟩
theorem lifted(os:Os)(started:os.Started)(H:Type)(enc:TypeId×Value→H)(F:Stop.Interp):
  ReturnsInHanded {} Tryz.checked os 11 .any ((OpenSpec.ofChange Rows.copyFreesSpec).preRow enc Tryz.prog Tryz.f11 Rows.copyFreesRow.domain false Rows.copyFreesRow.laid) (((OpenSpec.ofChange Rows.copyFreesSpec).at F).post enc Tryz.prog Tryz.f11 false true false false):=by
 obtain ⟨places,hx⟩:=reads os enc;refine returnsInHanded_of_row (C:=Tryz.checked) (s:=OpenSpec.ofChange Rows.copyFreesSpec) own started (by kernel_rfl) Tryz.func11
  (witness_row_atRef (enc:=enc) (C:=Tryz.checked) false (laidWorld os) wArgs rfl (by kernel_rfl) (by kernel_rfl) (by kernel_rfl)
   (OpenSpec.preRow_of_cond 8 hx (by kernel_rfl) (fun k hk=>by cases hk) (by kernel_rfl) (laid_met os))) ?_
 intro W base args ds gs before hval hW _ _ hwt hL _ _;exact contract H enc W base args ds gs before hval hW hwt hL
theorem andT{a b:Bool}(ha:a=true)(hb:b=true):(a && b)=true:=by rw[ha,hb];rfl
theorem fact1:Rows.copyFreesRow.wf (OpenSpec.ofChange (OpenSpec.ofChange Rows.copyFreesSpec).bare)=true:=by kernel_rfl
theorem fact2:laidOutB Tryz.prog=true:=by kernel_rfl
theorem fact3:mapsRowed Tryz.prog=true:=by kernel_rfl
theorem fact4:Tryz.f11.params.all (Tryz.prog.readableRec ·)=true:=by kernel_rfl
theorem fact5:namedTie Tryz.prog Rows.copyFreesRow.named (OpenSpec.ofChange Rows.copyFreesSpec).bare.vars=true:=by kernel_rfl
theorem fact6:(Rows.copyFreesRow.stops==[])=true:=by kernel_rfl
theorem fact7:(Tryz.prog.stops==[])=true:=by kernel_rfl
theorem fact8:(Rows.copyFreesRow.knobs==[])=true:=by kernel_rfl
theorem fact9:(Tryz.prog.stopKnobs==[])=true:=by kernel_rfl
theorem fact10:(Rows.copyFreesRow.inPlace==Tryz.prog.inPlace 11)=true:=by kernel_rfl
theorem fact11:(Rows.copyFreesRow.unfollowed==Tryz.prog.unfollowed 11)=true:=by kernel_rfl
theorem fact12:(Rows.copyFreesRow.recurses==Tryz.prog.recurses 11)=true:=by kernel_rfl
theorem fact13:(Rows.copyFreesRow.named==Tryz.prog.varsNamed 11)=true:=by kernel_rfl
theorem fact14:(Rows.copyFreesRow.maps==(Tryz.f11.params.toList++(OpenSpec.ofChange Rows.copyFreesSpec).bare.plain.varTypes Tryz.prog).any (Tryz.prog.mapsRec ·))=true:=by kernel_rfl
theorem fact15:(Rows.copyFreesRow.ifaces==(Tryz.f11.params.toList++(OpenSpec.ofChange Rows.copyFreesSpec).bare.plain.varTypes Tryz.prog).any (Tryz.prog.ifacesRec ·))=true:=by kernel_rfl
theorem fact16:(Rows.copyFreesRow.mapsOut==Tryz.prog.mapsAmong Tryz.f11.resultTypes.toList)=true:=by kernel_rfl
theorem fact17:(Rows.copyFreesRow.loops==(Tryz.f11.params.toList++(OpenSpec.ofChange Rows.copyFreesSpec).bare.plain.varTypes Tryz.prog).any (Tryz.prog.loopsFrom ·))=true:=by kernel_rfl
theorem fact18:(Rows.copyFreesRow.wideKeys==((Tryz.f11.params.toList++(OpenSpec.ofChange Rows.copyFreesSpec).bare.plain.varTypes Tryz.prog)++Tryz.f11.resultTypes.toList).any (Tryz.prog.wideKeysFrom ·))=true:=by kernel_rfl
theorem fact19:(OpenSpec.ofChange Rows.copyFreesSpec).bare.vars.all (Tryz.prog.varReadable ·)=true:=by kernel_rfl
theorem fact20:Tryz.f11.resultTypes.all (fun t=>Tryz.prog.readableRec t && decide (t<Tryz.prog.types.size))=true:=by kernel_rfl
theorem fact21:(Rows.copyFreesRow.ifacesOut==Tryz.f11.resultTypes.toList.any (Tryz.prog.ifacesRec ·))=true:=by kernel_rfl
theorem fact22:(Rows.copyFreesRow.loopsOut==Tryz.f11.resultTypes.toList.any (Tryz.prog.loopsFrom ·))=true:=by kernel_rfl
theorem fact23:(Rows.copyFreesRow.plainKeys==Tryz.prog.plainKeys)=true:=by kernel_rfl
theorem fact24:Rows.copyFreesRow.shortTexts.isNone=true:=by kernel_rfl
theorem fact25:Tryz.prog.stopsHeard=true:=by kernel_rfl
theorem fact26:Tryz.prog.mayEnter=true:=by kernel_rfl
theorem fact27:(Rows.copyFreesRow.lifted==Tryz.prog.liftsFinal)=true:=by kernel_rfl
theorem fact28:(Tryz.prog.make==some Rows.copyFreesRow.make)=true:=by kernel_rfl
theorem fact29:(Rows.copyFreesRow.kinds==(if Rows.copyFreesRow.domain.isEmpty then [] else Tryz.f11.params.toList.map fun t=>match Tryz.prog.underlying t with|some (.int k)=>some k|_=>none))=true:=by kernel_rfl
theorem fact30:(Rows.copyFreesRow.pinned==Rows.copyFreesRow.pinnedBy)=true:=by kernel_rfl
theorem fact31:(Rows.copyFreesRow.veiled==((Tryz.f11.params.toList++(OpenSpec.ofChange Rows.copyFreesSpec).bare.plain.varTypes Tryz.prog)++Tryz.f11.resultTypes.toList).any (Tryz.prog.veiledRec ·))=true:=by kernel_rfl
theorem fact32:Rows.copyFreesRow.veiledFits Tryz.prog Tryz.f11.params.toList ((Tryz.f11.params.toList++(OpenSpec.ofChange Rows.copyFreesSpec).bare.plain.varTypes Tryz.prog)++Tryz.f11.resultTypes.toList)=true:=by kernel_rfl
theorem facts:joinedFacts Tryz.pinned.checked.prog 11 Tryz.f11 (OpenSpec.ofChange Rows.copyFreesSpec).bare Rows.copyFreesRow=true:=(andT (andT (andT (andT (andT (andT (andT (andT (andT (andT (andT (andT (andT (andT (andT (andT (andT (andT (andT (andT (andT (andT (andT (andT (andT (andT (andT (andT (andT (andT (andT fact1 fact2) fact3) fact4) fact5) fact6) fact7) fact8) fact9) fact10) fact11) fact12) fact13) fact14) fact15) fact16) fact17) fact18) fact19) fact20) fact21) fact22) fact23) fact24) fact25) fact26) fact27) fact28) fact29) fact30) fact31) fact32)
theorem name11:Tryz.pinned.checked.prog.funcNamed Rows.copyFreesRow.func=some 11:=by kernel_rfl
theorem inst11:Tryz.f11.isInstance Tryz.pinned.checked.prog Rows.copyFreesRow.origin Rows.copyFreesRow.targs:=of_decide_eq_true (by kernel_rfl)
theorem wrap11:Tryz.f11.isWrapper Tryz.pinned.checked.prog Rows.copyFreesRow.wrapper Rows.copyFreesRow.mainSum:=by unfold Func.isWrapper;first|(rw[if_pos (by decide+kernel)];kernel_rfl)|(rw[if_neg (by decide+kernel)];exact ⟨rfl,rfl⟩)
theorem said:Rows.CopyFreesSaid:=
 OpenClaim.holds_of_cond 11 Tryz.f11 rfl rfl rfl rfl rfl rfl rfl ⟨rfl,rfl,rfl,rfl,rfl⟩ rfl rfl rfl rfl rfl name11 Tryz.func11 facts inst11 wrap11
  (fun os started H enc _ F=>by rw[OpenClaim.pre_eq_preRow];exact lifted os started H enc F)
theorem looksT:false=Tryz.pinned.checked.prog.looks []:=by kernel_rfl
theorem stand9:Tryz.prog.wantsStandIn 9=false:=by kernel_rfl
theorem stand28:Tryz.prog.wantsStandIn 28=false:=by kernel_rfl
theorem stand54:Tryz.prog.wantsStandIn 54=false:=by kernel_rfl
theorem named11 : Tryz.prog.funcNamed "manorboy/manorboylaw09.CopyFrees" = some 11 := by kernel_rfl
theorem plain (f : FuncId) (fn : Func) (hf : Tryz.pinned.checked.prog.funcNamed "manorboy/manorboylaw09.CopyFrees" = some f) (hfn : Tryz.pinned.checked.prog.funcs[f]? = some fn) :
  false=Tryz.pinned.checked.prog.looks []∧∀(j:Nat) t,fn.params[j]?=some t→Tryz.pinned.checked.prog.wantsStandIn t=false:=by
 obtain rfl:f=11:=Option.some.inj (named11.symm.trans hf) |>.symm;obtain rfl:fn=Tryz.f11:=(Option.some.inj (Tryz.func11.symm.trans hfn)).symm;refine ⟨looksT,fun j t ht=>?_⟩;rw[Tryz.params11] at ht;have:t=28∨t=9∨t=54:=by simpa using Array.mem_of_getElem? ht
 rcases this with rfl|rfl|rfl
 ·exact stand28
 ·exact stand9
 ·exact stand54
theorem wfText:Rows.copyFreesRow.wfByText (OpenSpec.ofChange Rows.copyFreesSpec)=true:=by kernel_rfl
theorem mainT:Tryz.pinned.checked.prog.mainIs=some (Rows.copyFreesCard.stood.harness.1,Rows.copyFreesCard.stood.harness.2.toList):=by kernel_rfl
theorem goesT:false=Rows.copyFreesRow.goesBy Tryz.pinned.checked.prog:=by kernel_rfl
theorem card:Rows.CopyFreesCardSaid:=
 Claim7.holds_tied_plain_at .later [] _ _ _ _ said (fun _ h=>by cases h) wfText (fun _ h=>by cases h) copyFrees_row_tie rfl ⟨rfl,rfl⟩ mainT rfl plain goesT
end Go.Proofs.YtbifpocccfkhhaaGreatDoor.copyFrees
namespace Go.Proofs.YtbifpocccfkhhaaGreatDoor
theorem copyFrees_holds:Rows.CopyFreesCardSaid:=copyFrees.card
end Go.Proofs.YtbifpocccfkhhaaGreatDoor
end
