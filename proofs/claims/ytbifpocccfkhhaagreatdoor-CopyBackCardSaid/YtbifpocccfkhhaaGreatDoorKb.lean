/- A part. -/
import Derived.Test.YtbifpocccfkhhaaGreatDoorKa
import Derived.MapFrom
import Derived.Laws.MakeOwn
import Derived.Laws.BytesString
import Derived.Maps.RangeRun
set_option linter.all false
namespace Go.Proofs.YtbifpocccfkhhaaGreatDoor
open Go
mutual
def V.under(m:Nat):V→Bool
 | .ptr l _ _ _=>decide (l<m)
 | .arr l _ _ _=>decide (l<m)
 | .map l=>decide (l<m)
 | .yld l=>decide (l<m)
 | .iptr v _=>V.under m v
 | .sl _ xs=>V.underL m xs
 | .fn f fs cs=>(match f with|.yield _=>false|_=>true) && V.underL m fs && V.underL m cs
 | .iface _ v=>V.under m v
 | .agg cs=>V.underL m cs
 | .tup cs=>V.underL m cs
 | _=>true
def V.underL(m:Nat):List V→Bool
 | []=>true
 | v::vs=>V.under m v && V.underL m vs
end
theorem yh{m:Nat}:∀{xs:List V},V.underL m xs=true→∀v,v∈xs→v.under m=true
 | [],_,v,hv=>by simp at hv
 | x::xs,h,v,hv=>by
  simp only[V.underL,qq5] at h;rcases qrl.1 hv with rfl|hv
  ·exact h.1
  ·exact yh h.2 v hv
theorem JZ{m:Nat}:∀{xs:List V},(∀v,v∈xs→v.under m=true)→V.underL m xs=true
 | [],_=>rfl
 | x::xs,h=>by
  simp only[V.underL,qq5];exact ⟨h x (by simp),JZ fun v hv=>h v (by simp[hv])⟩
theorem ZZ{m:Nat}{v c:V}{j:Nat}(h:v.under m=true)(hc:v.cells[j]?=some c):c.under m=true:=by
 by_cases ha:∃cs,v=.agg cs
 ·obtain ⟨cs,rfl⟩:=ha;simp only[V.under] at h;exact yh h c (qq1 hc)
 ·have:v.cells=[v]:=by
   cases v <;> first|rfl|exact absurd ⟨_,rfl⟩ ha
  rw[this] at hc
  cases j with
  | zero=>simp at hc;subst hc;exact h
  | succ j=>simp at hc
def En.cut(E:En)(m:Nat):En:={ E with ρ:=fun l st=>if l<m then E.ρ l st else none }
theorem VR.cut{E:En}{m:Nat}{v:V}{u:Value}(r:VR E v u):v.under m=true→VR (E.cut m) v u:=by
 induction r with
 | top u=>intro _;exact .top u
 | bool b=>intro _;exact .bool b
 | int k n=>intro _;exact .int k n
 | str s=>intro _;exact .str s
 | nilp=>intro _;exact .nilp
 | ptr i off hr=>intro h;simp[V.under] at h;exact .ptr i off (by simp[En.cut,h,hr])
 | glob g off=>intro _;exact .glob g off
 | iptr off hI _ ih=>intro h;simp only[V.under] at h;exact .iptr off hI fun j c' c hc hi=>ih j c' c hc hi (ZZ h hc)
 | slnil x=>intro _;exact .slnil x
 | slz x a=>intro _;exact .slz x a
 | sl hc hx hs hI _ ih=>intro h;simp only[V.under] at h;exact .sl hc hx hs hI fun i v j c' c hv hcc hi=>ih i v j c' c hv hcc hi (ZZ (yh h v (qq1 hv)) hcc)
 | arr hr hN hc=>intro h;simp[V.under] at h;exact .arr (by simp[En.cut,h,hr]) hN hc
 | nilmap=>intro _;exact .nilmap
 | map hr=>intro h;simp[V.under] at h;exact .map (by simp[En.cut,h,hr])
 | fn h1 h2 _ _ ih1 ih2=>
  intro h;simp only[V.under,qq5] at h;exact .fn h1 h2 (fun i v u hv hu=>ih1 i v u hv hu (yh h.1.2 v (qq1 hv))) (fun i v u hv hu=>ih2 i v u hv hu (yh h.2 v (qq1 hv)))
 | nilfn=>intro _;exact .nilfn
 | iface t _ ih=>intro h;simp only[V.under] at h;exact .iface t (ih h)
 | niliface=>intro _;exact .niliface
 | yld hr=>intro hb;simp only[V.under,decide_eq_true_eq] at hb;exact .yld (by simp[En.cut,hb,hr])
 | agg hl _ ih=>intro h;simp only[V.under] at h;exact .agg hl fun i v u hv hu=>ih i v u hv hu (yh h v (qq1 hv))
 | tup hl _ ih=>intro h;simp only[V.under] at h;exact .tup hl fun i v u hv hu=>ih i v u hv hu (yh h v (qq1 hv))
def Ob.under(m:Nat):Ob→Bool
 | .arr xs _ _=>V.underL m xs
 | .map es _ _=>es.all fun p=>p.1.under m && p.2.under m
 | .iter lm _ _ _=>decide (lm<m)
 | .dead=>true
 | .loop i=>i.e.all fun p=>p.2.under m
theorem SR.cut{E:En}{S:St}{w:World}(h:SR E S w){m:Nat}(hb:∀o,o∈S.take m→o.under m=true)(hm:m≤S.length):SR (E.cut m) (S.take m) w∧(∀n,n≤m→Ext n E S w (E.cut m) (S.take m) w):=by
 have hlen:(S.take m).length=m:=by simp;omega
 have hlv:∀l,ZP (S.take m) l→ZP S l∧l<m:=fun l hl=>by
  have:=Jb hl;rw[hlen] at this;obtain ⟨o,ho,hd⟩:=hl;exact ⟨⟨o,by rw[qrr this] at ho;exact ho,hd⟩,this⟩
 have hρ:∀l st x,(E.cut m).ρ l st=some x→l<m∧E.ρ l st=some x:=fun l st x hx=>by
  simp only[En.cut] at hx;split at hx
  ·exact ⟨‹_›,hx⟩
  ·cases hx
 have hown:∀b,own (E.cut m) (S.take m) b→own E S b:=fun b ⟨l,st,x,hl,hx,he⟩=>⟨l,st,x,(hlv l hl).1,(hρ l st x hx).2,he⟩
 have hold:∀{w':World} {x:Blk} {xs:List V} {n:Nat},V.underL m xs=true→qbW E w' x xs n→qbW (E.cut m) w' x xs n:=by
  intro w' x xs n hbl hh;obtain ⟨C,t,h1,h2,h3,h4⟩:=hh;refine ⟨C,t,h1,h2,h3,fun i v hv hi j c' hc=>?_⟩;obtain ⟨c,hc1,hc2⟩:=h4 i v hv hi j c' hc;exact ⟨c,hc1,hc2.cut (ZZ (yh hbl v (qq1 hv)) hc)⟩
 refine ⟨⟨⟨h.gl.1,h.gl.2⟩,h.I,?_,?_,?_,?_,?_⟩,fun n hn=>⟨qqY _,fun _ _ _ hc=>hc,fun l st x hl hx=>by simp only[En.cut];rw[if_pos (by omega)];exact hx,fun l hl hx st=>by
   simp only[En.cut];split
   ·exact hx st
   ·rfl,fun b hb=>.inl (hown b hb),fun b o c hc=>.inl hc,fun _ _ _=>rfl,rfl⟩⟩
 ·intro l o ho;have hlt:l<m:=by have:=(qqT.1 ho).1;rw[hlen] at this;exact this
  have hbo:=hb o (qq1 ho);rw[qrr hlt] at ho;have:=h.obs l o ho
  cases o with
  | arr xs sz wr=>
   obtain ⟨h0,h1,h2⟩:=this;refine ⟨h0,h1,fun st x hx hwr=>?_⟩;obtain ⟨a,b,c⟩:=h2 st x (hρ l st x hx).2 hwr;exact ⟨a,b,hold hbo c⟩
  | iter lm since seen last=>
   obtain ⟨x,y,h1,h2,h3⟩:=this;simp only[Ob.under,decide_eq_true_eq] at hbo;exact ⟨x,y,by simp[En.cut,hlt,h1],by simp[En.cut,hbo,h2],h3⟩
  | map es bs ck=>
   obtain ⟨x,entries,h1,h2,h3,h5,h4⟩:=this;refine ⟨x,entries,by simp[En.cut,hlt,h1],h2,h3,h5,fun i k v e hk he=>?_⟩;obtain ⟨a,b⟩:=h4 i k v e hk he;simp only[Ob.under,qri,qq5] at hbo;have:=hbo (k,v) (qq1 hk);exact ⟨a.cut this.1,b.cut this.2⟩
  | dead=>trivial
  | loop i=>
   obtain ⟨x,r,h1,h2,h3,h4,h5,h6,h7,h8,h9⟩:=this;refine ⟨x,r,by simp[En.cut,hlt,h1],h2,h3,h4,h5,h6,h7,h8,fun t v hv=>?_⟩;obtain ⟨u,hu,hr⟩:=h9 t v hv;simp only[Ob.under,qri] at hbo;exact ⟨u,hu,hr.cut (hbo (t,v) (Env.get_mem hv))⟩
 ·intro l st x hx;rw[hlen];exact (hρ l st x hx).1
 ·intro b o hb';exact h.apart b o (hown b hb')
 ·intro b hb';exact h.lt b (hown b hb')
 ·intro l l' st st' x x' hl hl' hx hx' he;exact h.inj l l' st st' x x' (hlv l hl).1 (hlv l' hl').1 (hρ l st x hx).2 (hρ l' st' x' hx').2 he
theorem qb4{E E':En}{S:St}{l b:Nat}(hρ:E'.ρ=E.ρ)(h:own E' (S.set l .dead) b):own E S b∧∀st x,ZP S l→E.ρ l st=some x→(∀l' st' x',ZP S l'→E.ρ l' st'=some x'→x'.b=x.b→l'=l)→x.b≠b:=by
 obtain ⟨l',st,x,hl,hx,rfl⟩:=h;rw[hρ] at hx
 have hne:l'≠l:=by
  rintro rfl;obtain ⟨o,ho,hd⟩:=hl;rcases qsC l' S.length with hlt|hge
  ·rw[qqV hlt] at ho;cases ho;exact hd rfl
  ·rw[qrv (by simp;omega)] at ho;cases ho
 have hlv:ZP S l':=by
  obtain ⟨o,ho,hd⟩:=hl;rw[qqX (Ne.symm hne)] at ho;exact ⟨o,ho,hd⟩
 exact ⟨⟨l',st,x,hlv,hx,rfl⟩,fun st' x' _ hx' hinj e=>hne (hinj l' st x hlv hx e.symm)⟩
theorem SR.freeze{E:En}{S:St}{w:World}(h:SR E S w){l off len st sz wr:Nat}{xs:List V}{u:Value}(ho:S[l]?=some (.arr xs sz wr))(hwr:wr≤st)(hv:VR E (.arr l off len st) u)(hle:off+len≤st):
  ∃E',SR E' (S.set l .dead) w∧(∀n,Ext n E S w E' (S.set l .dead) w)∧E.le E'∧VR E' (.sl false ((xs.drop off).take len)) u:=by
 cases hv with
 | arr hr hN hc=>
  rename_i cap x;obtain ⟨h0,h1,h2⟩:=h.obs l _ ho;obtain ⟨g1,g2,C,t,g3,g4,g5,g6⟩:=h2 st x hr hwr;have hlive:ZP S l:=⟨_,ho,by simp⟩;have hbo:own E S x.b:=⟨l,st,x,hlive,hr,rfl⟩
  let E':En:={ E with I:=fun b o=>if b=x.b∧off * x.sz≤o∧o<(off+len) * x.sz then C[o]? else E.I b o }
  have hle':E.le E':=⟨fun b o c hc=>by
   simp only[E'];split
   ·rename_i hk;obtain ⟨rfl,_⟩:=hk;rw[h.apart x.b o hbo] at hc;cases hc
   ·exact hc,fun _ _ _ h=>h⟩
  have hρ:E'.ρ=E.ρ:=rfl;have hinj:∀l' st' x',ZP S l'→E.ρ l' st'=some x'→x'.b=x.b→l'=l:=fun l' st' x' hl' hx' he=>h.inj l' l st' st x' x hl' hlive hx' hr he
  refine ⟨E',⟨h.gl.old hle'.1 (fun _ _ _ _ _ _=>rfl),?_,?_,?_,?_,?_,?_⟩,fun n=>⟨qqY _,hle'.1,fun l st x _ hx=>hx,fun _ _ hx=>hx,fun b hb=>.inl (qb4 hρ hb).1,?_,fun _ _ _=>rfl,rfl⟩,hle',?_⟩
  ·intro b o c hc;simp only[E'] at hc;split at hc
   ·rename_i hk;obtain ⟨rfl,_⟩:=hk;rw[cell?_of g3];exact hc
   ·exact h.I b o c hc
  ·intro l' o' hl';by_cases hk:l'=l
   ·subst hk;rw[qqV (Jb hlive)] at hl';cases hl';trivial
   ·rw[qqX (Ne.symm hk)] at hl';exact (h.obs l' o' hl').mono hle' (fun _ _ hx=>hx) (fun _ _ _=>rfl)
  ·intro l' st' x' hx';simpa using h.dom l' st' x' hx'
  ·intro b o hb;obtain ⟨hb1,hb2⟩:=qb4 hρ hb;have hne:=hb2 st x hlive hr hinj;simp only[E'];rw[if_neg (fun hk=>hne hk.1.symm)];exact h.apart b o hb1
  ·intro b hb;exact h.lt b (qb4 hρ hb).1
  ·intro l1 l2 st1 st2 x1 x2 hl1 hl2 hx1 hx2 he;have key:∀l',ZP (S.set l .dead) l'→ZP S l':=fun l' hl'=>Qc hl' hlive
   exact h.inj l1 l2 st1 st2 x1 x2 (key l1 hl1) (key l2 hl2) hx1 hx2 he
  ·intro b o c hc;simp only[E'] at hc;split at hc
   ·rename_i hk;obtain ⟨rfl,_⟩:=hk;exact .inr (.inl hbo)
   ·exact .inl hc
  ·have hlen:((xs.drop off).take len).length=len:=by simp;omega
   have hget:∀(i:Nat) (v:V),((xs.drop off).take len)[i]?=some v→xs[off+i]?=some v∧i<len:=fun i v hv=>by
    have hi:=(qqT.1 hv).1;rw[hlen] at hi;rw[qrr hi,qrB] at hv;exact ⟨hv,hi⟩
   have hmem:∀v,v∈(xs.drop off).take len→v.cells.length=x.sz:=fun v hv=>by rw[g2];exact h1 v (List.mem_of_mem_drop (List.mem_of_mem_take hv))
   have hrow:∀i j,i<len→j<x.sz→off * x.sz≤off * x.sz+i * x.sz+j∧off * x.sz+i * x.sz+j<(off+len) * x.sz:=fun i j hi hj=>by
    have:(i+1) * x.sz≤len * x.sz:=qrO _ hi;rw[qrJ] at this;rw[qrJ];omega
   have:=VR.sl (E:=E') (x:=false) (xs:=(xs.drop off).take len) (b:=x.b) (o:=off * x.sz) (cap:=cap) (sz:=x.sz) (by rw[hlen];exact hc) (fun h=>by cases h) hmem
    (fun i j hi hj=>by
     rw[hlen] at hi;simp only[E'];rw[if_pos ⟨trivial,hrow i j hi hj⟩];have hx:xs[off+i]?=some (xs[off+i]'(by omega)):=by simp
     have hcl:(xs[off+i]'(by omega)).cells.length=x.sz:=by rw[g2];exact h1 _ (qra _)
     obtain ⟨c,hc1,_⟩:=g6 (off+i) _ hx (by omega) j (xs[off+i]'(by omega)).cells[j] (by simp);rw[show off * x.sz+i * x.sz+j=(off+i) * x.sz+j by rw[qrJ],hc1];rfl)
    (fun i v j c' c hv hcc hi=>by
     obtain ⟨hv',hi'⟩:=hget i v hv;have hj:j<x.sz:=by rw[←hmem v (qq1 hv)];exact (qqT.1 hcc).1
     obtain ⟨d,hd1,hd2⟩:=g6 (off+i) v hv' (by omega) j c' hcc;simp only[E'] at hi;rw[if_pos ⟨trivial,hrow i j hi' hj⟩,show off * x.sz+i * x.sz+j=(off+i) * x.sz+j by rw[qrJ],hd1] at hi;cases hi;exact hd2.mono hle')
   rw[hlen] at this;exact this
inductive KeyKd where
 | str
 | int (k:IntKind)
 deriving DecidableEq,Inhabited
def YU:KeyKd→V→V→Option Bool
 | .str,.str a,.str b=>some (a.data.toList==b.data.toList)
 | .int k,.int j a,.int j' b=>if j=k∧j'=k then some (a==b) else none
 | _,_,_=>none
def zG(kd:KeyKd)(k:V):List (V×V)→Nat→Option (Option (Nat×V))
 | [],_=>some none
 | (k',v)::es,i=>match YU kd k k' with
  | some true=>some (some (i,v))
  | some false=>zG kd k es (i+1)
  | none=>none
def Jf(P:Program)(t:TypeId):Option KeyKd:=
 match P.underlying t with
 | some .string=>some .str
 | some (.int k)=>some (.int k)
 | _=>none
def jQ(kd:KeyKd):V→Bool
 | .str _=>kd==.str
 | .int k _=>kd==.int k
 | _=>false
def ZK(E:En)(es:List (V×V))(l:List MapEntry):Prop:=es.length=l.length∧∀(i:Nat) (k v:V) (e:MapEntry),es[i]?=some (k,v)→l[i]?=some e→VR E k e.key∧VR E v e.val
theorem qbp{E:En}{P:Program}{kd:KeyKd}{t:TypeId}{d:TypeDesc}(ht:Jf P t=some kd)(hd:P.underlying t=some d){x y:V}{u v:Value}{b:Bool}(hx:VR E x u)(hy:VR E y v)(h:YU kd x y=some b):
  Instr.sameNow d u v=some b∧MapKept.IsKey d u:=by
 unfold Jf at ht;rw[hd] at ht;split at ht <;> simp only[Option.some.injEq,reduceCtorEq] at ht <;> rename_i he <;> cases he <;> subst ht
 ·cases hx <;> cases hy <;> simp only[YU,reduceCtorEq,Option.some.injEq] at h;rename_i a b';refine ⟨?_,trivial⟩;simp only[Instr.sameNow,Option.some.injEq];rw[←h,qrz,MapKept.bytes_beq];obtain ⟨x⟩:=a;obtain ⟨y⟩:=b';simp
 ·cases hx <;> cases hy <;> simp only[YU,reduceCtorEq] at h;split at h <;> cases h;rename_i hk;obtain ⟨rfl,rfl⟩:=hk;exact ⟨by simp[Instr.sameNow],rfl⟩
theorem JU{E:En}{P:Program}{kd:KeyKd}{t:TypeId}{d:TypeDesc}(ht:Jf P t=some kd)(hd:P.underlying t=some d){x:V}{u:Value}(hx:VR E x u)(h:jQ kd x=true):MapKept.IsKey d u:=by
 unfold Jf at ht;rw[hd] at ht;split at ht <;> simp only[Option.some.injEq,reduceCtorEq] at ht <;> rename_i he <;> cases he <;> subst ht
 ·cases hx <;> simp[jQ] at h;trivial
 ·cases hx <;> simp[jQ] at h;exact h.symm
theorem yf{E:En}{P:Program}{kd:KeyKd}{t:TypeId}{d:TypeDesc}(ht:Jf P t=some kd)(hd:P.underlying t=some d){x:V}{u:Value}(hx:VR E x u):∀(es:List (V×V)) (l:List MapEntry) (i:Nat) (r:Option (Nat×V)),ZK E es l→zG kd x es i=some r→
  (r=none∧Instr.findNow d u l i=some none)∨∃j v e,r=some (i+j,v)∧Instr.findNow d u l i=some (some (i+j,e.val))∧VR E v e.val∧l[j]?=some e∧VR E x e.key∧j<es.length∧Instr.sameNow d u e.key=some true
 | [],l,i,r,hr,h=>by
  have:l=[]:=qrq (by have:=hr.1;simp at this;omega);subst this;simp only[zG,Option.some.injEq] at h;exact .inl ⟨h.symm,rfl⟩
 | (k,v)::es,l,i,r,hr,h=>by
  match l,hr with
  | [],hr=>exact absurd hr.1 (by simp)
  | e::l,hr=>
   obtain ⟨h1,h2⟩:=hr.2 0 k v e rfl rfl;simp only[zG] at h;split at h
   ·rename_i hk;obtain ⟨s1,s2⟩:=qbp ht hd hx h1 hk;cases h;refine .inr ⟨0,v,e,rfl,by simp[Instr.findNow,s1],h2,rfl,?_,by simp,s1⟩;unfold Jf at ht;rw[hd] at ht;split at ht <;> simp only[Option.some.injEq,reduceCtorEq] at ht <;> rename_i he <;> cases he <;> subst ht
    ·cases hx <;> generalize hek:e.key=ek at * <;> cases h1 <;> simp only[YU,reduceCtorEq,Option.some.injEq] at hk;rename_i a b;obtain ⟨x⟩:=a;obtain ⟨y⟩:=b;simp at hk;subst hk;exact .str _
    ·cases hx <;> generalize hek:e.key=ek at * <;> cases h1 <;> simp only[YU,reduceCtorEq] at hk;split at hk
     ·rename_i hkk;obtain ⟨rfl,rfl⟩:=hkk;simp at hk;subst hk;exact .int _ _
     ·cases hk
   ·rename_i hk;obtain ⟨s1,s2⟩:=qbp ht hd hx h1 hk;have hr':ZK E es l:=⟨by have:=hr.1;simp at this;exact this,fun j k' v' e' hj hj'=>hr.2 (j+1) k' v' e' (by simpa using hj) (by simpa using hj')⟩;rcases yf ht hd hx es l (i+1) r hr' h with ⟨g1,g2⟩|⟨j,v',e',g1,g2,g3,g4,g5,g6,g7⟩
    ·exact .inl ⟨g1,by simp[Instr.findNow,s1,g2]⟩
    ·refine .inr ⟨j+1,v',e',by rw[g1];simp;omega,by simp only[Instr.findNow,s1,g2];simp;omega,g3,by simpa using g4,g5,by simp;omega,g7⟩
   ·cases h
def qbA(S:St):V→Option (List (V×V))
 | .nilmap=>some []
 | .map l=>match S[l]? with
  | some (.map es _ _)=>some es
  | _=>none
 | _=>none
def qbT(S:St)(kd:KeyKd)(z:V)(ok:Bool)(x k:V):Option V:=
 if jQ kd k=true then match qbA S x with
  | some es=>match zG kd k es 0 with
   | some (some (_,v))=>some (if ok then .tup [v,.bool true] else v)
   | some none=>some (if ok then .tup [z,.bool false] else z)
   | none=>none
  | none=>none
 else none
def Jc(P:Program)(t:TypeId):Option (KeyKd×TypeId×TypeId):=
 match P.underlying t with
 | some (.map k e)=>(Jf P k).map fun kd=>(kd,k,e)
 | _=>none
theorem qdW{E:En}{S:St}{P:Program}{w:World}{x k r z:V}{u ku:Value}{t kt et:TypeId}{kd:KeyKd}{ok:Bool}{i:TypeInfo}{zv:Value}(hs:SR E S w)(ht:Jc P t=some (kd,kt,et))(hi:P.info? et=some i)(hz:i.zero=some zv)(hzz:VR E z zv)(hx:VR E x u)(hk:VR E k ku)(h:qbT S kd z ok x k=some r):
  Sim P E S w (Instr.lookup t u ku ok) r S:=by
 unfold Jc at ht;split at ht <;> try cases ht
 rename_i k' e' hu
 cases hkk:Jf P k' with
 | none=>rw[hkk] at ht;cases ht
 | some kd'=>
  rw[hkk] at ht;simp only[qre,Option.some.injEq,Prod.mk.injEq] at ht;obtain ⟨rfl,rfl,rfl⟩:=ht
  have hd:∃d,P.underlying k'=some d:=by
   unfold Jf at hkk
   cases hd:P.underlying k' with
   | none=>rw[hd] at hkk;cases hkk
   | some d=>exact ⟨d,rfl⟩
  obtain ⟨d,hd⟩:=hd;unfold qbT at h;split at h
  case isFalse=>cases h
  rename_i hki;have hkey:=JU hkk hd hk hki;split at h <;> try cases h
  rename_i es hes
  have hent:∃l:Array MapEntry,ZK E es l.toList∧((u=.map none∧l=#[])∨∃b clock,u=.map (some b)∧w.heap[b]?=some (.map l clock)):=by
   cases hx <;> simp only[qbA,reduceCtorEq,Option.some.injEq] at hes
   ·subst hes;exact ⟨#[],⟨rfl,fun i k v e h=>by simp at h⟩,.inl ⟨rfl,rfl⟩⟩
   ·rename_i l y hy;split at hes <;> cases hes;rename_i hl;obtain ⟨y',entries,h1,h2,h3,_,h4⟩:=hs.obs l _ hl;rw[hy] at h1;cases h1;exact ⟨entries,⟨by simpa using h3,fun i k v e hk he=>h4 i k v e hk (by simpa using he)⟩,.inr ⟨_,_,rfl,h2⟩⟩
  obtain ⟨l,hl,hform⟩:=hent;have hck:(Instr.checkKey l.isEmpty 10000 k' ku).run P w=.ok () w:=MapKept.run_checkKey hd hkey _ _;split at h <;> try cases h
  ·rename_i j v hf;rcases yf hkk hd hk es l.toList 0 _ hl hf with ⟨g1,_⟩|⟨j',v',e,g1,g2,g3,_⟩
   ·cases g1
   ·simp only[Option.some.injEq,Prod.mk.injEq] at g1;obtain ⟨rfl,rfl⟩:=g1;have hfk:=MapKept.run_findKey (P:=P) (w:=w) hd g2;refine ⟨if ok then .tuple #[e.val,.bool true] else e.val,E,w,?_,?_,hs,Ext.refl _ _ _ _,qqY _⟩
    ·rcases hform with ⟨rfl,rfl⟩|⟨b,clock,rfl,hb⟩
     ·simp only[Instr.lookup,Sem.run_bind,qc hu,Result.andThen,Sem.run_pure,hck,hfk]
     ·simp only[Instr.lookup,Sem.run_bind,qc hu,Result.andThen,MapKept.run_getObj_map hb,Sem.run_pure,hck,hfk]
    ·cases ok
     ·exact g3
     ·refine .tup rfl fun i v u hv hu=>?_
      match i with
      | 0=>simp at hv hu;subst hv;subst hu;exact g3
      | 1=>simp at hv hu;subst hv;subst hu;exact .bool _
      | i+2=>simp at hv
  ·rename_i hf;rcases yf hkk hd hk es l.toList 0 _ hl hf with ⟨_,g2⟩|⟨j',v',e,g1,_⟩
   ·have hfk:=MapKept.run_findKey (P:=P) (w:=w) hd g2;refine ⟨if ok then .tuple #[zv,.bool false] else zv,E,w,?_,?_,hs,Ext.refl _ _ _ _,qqY _⟩
    ·rcases hform with ⟨rfl,rfl⟩|⟨b,clock,rfl,hb⟩
     ·simp only[Instr.lookup,Sem.run_bind,qc hu,Result.andThen,Sem.run_pure,hck,hfk,qT hi hz]
     ·simp only[Instr.lookup,Sem.run_bind,qc hu,Result.andThen,MapKept.run_getObj_map hb,Sem.run_pure,hck,hfk,qT hi hz]
    ·cases ok
     ·exact hzz
     ·refine .tup rfl fun i v u hv hu=>?_
      match i with
      | 0=>simp at hv hu;subst hv;subst hu;exact hzz
      | 1=>simp at hv hu;subst hv;subst hu;exact .bool _
      | i+2=>simp at hv
   ·cases g1
theorem qb0{E:En}{S:St}{P:Program}{w:World}{t:TypeId}(hs:SR E S w):Sim P E S w (Instr.makeMap t none) (.map S.length) (S++[.map [] [] 0]):=by
 have hno:∀st,E.ρ S.length st=none:=fun st=>by
  cases hr:E.ρ S.length st with
  | none=>rfl
  | some x=>exact absurd (hs.dom _ _ _ hr) (by omega)
 obtain ⟨n1,n2⟩:=hs.new (o:=.map #[] 0) (ob:=.map [] [] 0) (st:=0) (N:=0) (sz:=0) ⟨⟨w.heap.size,0,0⟩,#[],zi,Q5,rfl,rfl,fun i k v e h=>by simp at h⟩;refine ⟨.map (some w.heap.size),_,_,?_,?_,n1,n2,by simp⟩
 ·simp[Instr.makeMap,newObj,Sem.run,Result.andThen]
 ·exact VR.map (x:=⟨w.heap.size,0,0⟩) zi
def qaV(S:St)(kd:KeyKd)(x k v:V):Option St:=
 if jQ kd k=true then match x with
  | .map l=>match S[l]? with
   | some (.map es bs ck)=>match zG kd k es 0 with
    | some (some (i,_))=>some (S.set l (.map (es.set i (k,v)) bs ck))
    | some none=>some (S.set l (.map (es++[(k,v)]) (bs++[ck]) (ck+1)))
    | none=>none
   | _=>none
  | _=>none
 else none
theorem Yr{E:En}{S S':St}{P:Program}{w:World}{x k v:V}{u ku vu:Value}{t kt et:TypeId}{kd:KeyKd}(hs:SR E S w)(ht:Jc P t=some (kd,kt,et))(hx:VR E x u)(hk:VR E k ku)(hv:VR E v vu)(h:qaV S kd x k v=some S'):
    ∃E' w',(Instr.mapUpdate t u ku vu).run P w=.ok () w'∧SR E' S' w'∧Ext S.length E S w E' S' w'∧S.length≤S'.length:=by
  unfold Jc at ht;split at ht <;> try cases ht
  rename_i k' e' hu
  cases hkk:Jf P k' with
  | none=>rw[hkk] at ht;cases ht
  | some kd'=>
    rw[hkk] at ht;simp only[qre,Option.some.injEq,Prod.mk.injEq] at ht;obtain ⟨rfl,rfl,rfl⟩:=ht
    have hd:∃d,P.underlying k'=some d:=by
      unfold Jf at hkk
      cases hd:P.underlying k' with
      | none=>rw[hd] at hkk;cases hkk
      | some d=>exact ⟨d,rfl⟩
    obtain ⟨d,hd⟩:=hd;unfold qaV at h;split at h
    case isFalse=>cases h
    rename_i hki;have hkey:=JU hkk hd hk hki;split at h <;> try cases h
    rename_i l;split at h <;> try cases h
    rename_i es bs clock hl
    cases hx with
    | map hy=>
      rename_i y;obtain ⟨y',entries,h1,hb,h3,hbs,h4⟩:=hs.obs l _ hl;rw[hy] at h1;cases h1;have hlive:ZP S l:=⟨_,hl,by simp⟩;have hent:ZK E es entries.toList:=⟨by simpa using h3,fun i k v e hk he=>h4 i k v e hk (by simpa using he)⟩;have hck:(Instr.checkKey false 10000 k' ku).run P w=.ok () w:=MapKept.run_checkKey hd hkey _ _;have put:∀(es':List (V×V)) (bs':List Nat) (ents':Array MapEntry) (clock':Nat),ZK E es' ents'.toList→bs'=ents'.toList.map (·.born)→
          ∃E' w',w'={ w with heap:=w.heap.setIfInBounds y.b (.map ents' clock') }∧SR E' (S.set l (.map es' bs' clock')) w'∧Ext S.length E S w E' (S.set l (.map es' bs' clock')) w':=by
        intro es' bs' ents' clock' he hbs';have hlt:y.b<w.heap.size:=(qrb.1 hb).1;have:=hs.change (E':=E) (w':={ w with heap:=w.heap.setIfInBounds y.b (.map ents' clock') }) (ob:=.map es' bs' clock') hlive rfl (En.le_refl E) (fun _ _ _=>rfl) (fun st z hz=>.inl ⟨st,z,hz,rfl⟩) (by simp)
          (fun b hb' hne=>by
            show (w.heap.setIfInBounds y.b _)[b]?=_;rw[qrm (hne 0 y hy)]) rfl ⟨y,ents',hy,by simp[hlt],by simpa using he.1,hbs',fun i k v e hk he'=>he.2 i k v e hk (by simpa using he')⟩
        exact ⟨E,_,rfl,this.1,this.2⟩
      split at h <;> try cases h
      · rename_i i v0 hf;rcases yf hkk hd hk es entries.toList 0 _ hent hf with ⟨g1,_⟩|⟨j,v',e,g1,g2,g3,g4,g5,g6,g7⟩
        · cases g1
        · simp only[Option.some.injEq,Prod.mk.injEq,qr1] at g1;obtain ⟨rfl,rfl⟩:=g1
          have hkeq:e.key=ku:=by
            have hx:=g5;cases hk <;> cases hkk':kd' <;> simp[jQ,hkk'] at hki <;> (generalize e.key=q at hx;cases hx;rfl)
          have hge:entries[i]?=some e:=by simpa using g4
          have hfk:=MapKept.run_findKey (P:=P) (w:=w) hd g2
          obtain ⟨E',w',rfl,q1,q2⟩:=put (es.set i (k,v)) bs (entries.modify i fun e=>{ e with key:=ku,val:=vu }) clock ⟨by simp[h3],fun j' k2 v2 e2 hk2 he2=>by
            have he2':(entries.modify i fun e=>{ e with key:=ku,val:=vu })[j']?=some e2:=by rw[←qr3];exact he2
            rw[qsk] at he2';by_cases hj:i=j'
            · subst hj;rw[qqV g6] at hk2;cases hk2;rw[if_pos rfl,hge] at he2';cases he2';exact ⟨hk,hv⟩
            · rw[qqX hj] at hk2;rw[if_neg hj] at he2'
              exact h4 j' k2 v2 e2 hk2 he2'⟩ (by
            rw[hbs];apply qrM;intro q;simp only[qq7,qr3,qsk];split
            · cases entries[q]? <;> rfl
            · rfl)
          refine ⟨E',_,?_,q1,q2,by simp⟩;simp[Instr.mapUpdate,qc hu,MapKept.run_getObj_map hb,hck,hfk,hge,hkeq,MapKept.run_keyThatStays hkey,MapKept.run_setObj_map _ hb,Result.andThen]
      · rename_i hf;rcases yf hkk hd hk es entries.toList 0 _ hent hf with ⟨_,g2⟩|⟨j',v',e,g1,_⟩
        · have hfk:=MapKept.run_findKey (P:=P) (w:=w) hd g2
          obtain ⟨E',w',rfl,q1,q2⟩:=put (es++[(k,v)]) (bs++[clock]) (entries.push { key:=ku,val:=vu,born:=clock }) (clock+1) ⟨by simp[h3],fun j' k2 v2 e2 hk2 he2=>by
            have he2':(entries.push { key:=ku,val:=vu,born:=clock })[j']?=some e2:=by rw[←qr3];exact he2
            rw[qrZ] at he2';by_cases hj:j'=entries.size
            · rw[if_pos hj] at he2';cases he2';rw[qqU (by omega),show j' - es.length=0 by omega] at hk2;simp at hk2;obtain ⟨rfl,rfl⟩:=hk2;exact ⟨hk,hv⟩
            · rw[if_neg hj] at he2';have:=(qrb.1 he2').1;rw[qqW (by omega)] at hk2;exact h4 j' k2 v2 e2 hk2 he2'⟩ (by rw[hbs];simp)
          refine ⟨E',_,?_,q1,q2,by simp⟩;simp[Instr.mapUpdate,qc hu,MapKept.run_getObj_map hb,hck,hfk,MapKept.run_setObj_map _ hb,Result.andThen]
        · cases g1
inductive CK where
 | b|i| s
 deriving DecidableEq,Inhabited
def QH:CK→V→V→Option Bool
 | .b,.bool a,.bool b=>some (a==b)
 | .i,.int k a,.int k' b=>if k=k' then some (a==b) else none
 | .s,.str a,.str b=>some (a.data.toList==b.data.toList)
 | _,_,_=>none
def zn(xs ys:List V):List (Nat×CK)→Option Bool
 | []=>some true
 | (o,c)::os=>match xs[o]?,ys[o]? with
  | some a,some b=>match QH c a b with
   | some true=>zn xs ys os
   | some false=>some false
   | none=>none
  | _,_=>none
def shift(off:Nat)(p:Nat×CK):Nat×CK:=(p.1+off,p.2)
def jz(P:Program)(g:TypeId→Option (List (Nat×CK)))(size:Nat):List Field→Option (List (Nat×CK))
 | []=>some []
 | f :: fs => if f.name = "_" then none else match zf P f.type, g f.type, jz P g size fs with
  | some k,some os,some es=>match k with
   | none=>if f.offset+1≤size∧os.all (fun o=>decide (o.1<1))=true then some (os.map (shift f.offset)++es) else none
   | some n=>if f.offset+n≤size∧os.all (fun o=>decide (o.1<n))=true then some (os.map (shift f.offset)++es) else none
  | _,_,_=>none
def ZU(P:Program):Nat→TypeId→Option (List (Nat×CK))
 | 0,_=>none
 | d+1,t=>match P.underlying t with
  | some .bool=>some [(0,.b)]
  | some (.int _)=>some [(0,.i)]
  | some .string=>some [(0,.s)]
  | some (.struct fs)=>if P.stoodInHeld t=true then none else match P.info? t with
   | some i=>jz P (ZU P d) i.size fs.toList
   | none=>none
  | _=>none
theorem QU{xs ys:List V}:∀{a b:List (Nat×CK)},zn xs ys (a++b)=match zn xs ys a with
  | some true=>zn xs ys b
  | r=>r
 | [],b=>rfl
 | (o,c)::a,b=>by
  simp only[qrp,zn];split
  ·split
   ·exact QU
   ·rfl
   ·rfl
  ·rfl
theorem jV{xs ys xs' ys':List V}{off:Nat}:∀{os:List (Nat×CK)},(∀o,o∈os→xs[o.1+off]?=xs'[o.1]?∧ys[o.1+off]?=ys'[o.1]?)→zn xs ys (os.map (shift off))=zn xs' ys' os
 | [],_=>rfl
 | (o,c)::os,h=>by
  obtain ⟨h1,h2⟩:=h (o,c) (by simp);simp only[qq8,zn,shift,h1,h2];rw[jV (os:=os) fun o ho=>h o (by simp[ho])]
theorem jy{P:Program}{t:TypeId}{n:Nat}(h:zf P t=some (some n)):∃i,P.info? t=some i∧i.size=n:=by
 unfold zf at h;split at h
 ·cases hi:P.info? t with
  | none=>rw[hi] at h;cases h
  | some i=>rw[hi] at h;cases h;exact ⟨i,rfl,rfl⟩
 ·cases hi:P.info? t with
  | none=>rw[hi] at h;cases h
  | some i=>rw[hi] at h;cases h;exact ⟨i,rfl,rfl⟩
 ·cases h
 ·cases h
theorem qaA{P:Program}{t:TypeId}{d:Nat}{os:List (Nat×CK)}(hk:zf P t=some none)(h:ZU P d t=some os):(∃c,os=[(0,c)])∧∀fs,P.underlying t≠some (.struct fs):=by
 cases d with
 | zero=>cases h
 | succ d=>
  simp only[ZU] at h;split at h
  ·rename_i hd;cases h;exact ⟨⟨_,rfl⟩,fun fs=>by rw[hd];simp⟩
  ·rename_i hd;cases h;exact ⟨⟨_,rfl⟩,fun fs=>by rw[hd];simp⟩
  ·rename_i hd;cases h;exact ⟨⟨_,rfl⟩,fun fs=>by rw[hd];simp⟩
  ·rename_i fs hd;exfalso;simp only[zf,hd] at hk;cases hi:P.info? t <;> rw[hi] at hk <;> cases hk
  ·cases h
theorem qeF{P:Program}{t:TypeId}{d n:Nat}{os:List (Nat×CK)}(hk:zf P t=some (some n))(h:ZU P d t=some os):∃fs,P.underlying t=some (.struct fs):=by
 cases d with
 | zero=>cases h
 | succ d=>
  simp only[ZU] at h;split at h
  ·rename_i hd;simp[zf,hd] at hk
  ·rename_i hd;simp[zf,hd] at hk
  ·rename_i hd;simp[zf,hd] at hk
  ·rename_i fs hd;exact ⟨fs,hd⟩
  ·cases h
def Jg(P:Program)(t:TypeId)(x:V):Prop:=match P.underlying t with
 | some (.struct _)=>x.isAgg=true∧∃i,P.info? t=some i∧x.cells.length=i.size
 | _=>x.isAgg=false
theorem yM{x:V}(h:x.isAgg=false):x.cells=[x]:=by
 cases x <;> first|rfl|simp[V.isAgg] at h
theorem qa8{x:V}{off n:Nat}(ha:x.isAgg=true)(hle:off+n≤x.cells.length):∃r,x.part off (some n)=some r∧r.isAgg=true∧r.cells.length=n∧∀o,o<n→x.cells[o+off]?=r.cells[o]?:=by
 cases x <;> simp[V.isAgg] at ha;rename_i cs;simp only[V.cells] at hle;simp only[V.part];split
 ·rename_i h;obtain ⟨rfl,rfl,_⟩:=h;exact ⟨_,rfl,rfl,rfl,fun o _=>rfl⟩
 ·refine ⟨_,rfl,rfl,by simp[V.cells];omega,fun o ho=>?_⟩;simp only[V.cells];rw[qrr ho,qrB,Nat.add_comm]
theorem qnH{E:En}{P:Program}{w:World}:∀(d:Nat) (t:TypeId) (os:List (Nat×CK)) (x y:V) (u v:Value) (b:Bool),ZU P d t=some os→VR E x u→VR E y v→Jg P t x→Jg P t y→zn x.cells y.cells os=some b→(Op.equalIn d t u v).run P w=.ok b w:=by
 intro d
 induction d with
 | zero=>intro t os x y u v b hc;cases hc
 | succ d ih=>
  intro t os x y u v b hc hx hy fx fy h;simp only[ZU] at hc;split at hc <;> try cases hc
  ·rename_i hd;simp only[Jg,hd] at fx fy;rw[yM fx,yM fy] at h;simp only[zn,qsg] at h;cases hx <;> cases hy <;> simp[QH] at h;simp only[Op.equalIn,Sem.run_bind,qc hd,Result.andThen,Sem.run_pure];rename_i p q;cases p <;> cases q <;> simp at h <;> subst h <;> rfl
  ·rename_i k hd;simp only[Jg,hd] at fx fy;rw[yM fx,yM fy] at h;simp only[zn,qsg] at h;cases hx <;> cases hy <;> simp[QH] at h;rename_i k1 p k2 q;simp only[Op.equalIn,Sem.run_bind,qc hd,Result.andThen];by_cases hk:k1=k2
   ·subst hk;simp at h;simp only[if_true,Sem.run_pure];by_cases hpq:p=q
    ·subst hpq;simp at h;subst h;simp
    ·have:(p==q)=false:=by simpa using hpq
     rw[this] at h ⊢;simp at h;subst h;rfl
   ·simp[hk] at h
  ·rename_i hd;simp only[Jg,hd] at fx fy;rw[yM fx,yM fy] at h;simp only[zn,qsg] at h;cases hx <;> cases hy <;> simp only[QH,reduceCtorEq] at h <;> try (cases h;done)
   rename_i p q;simp only[Op.equalIn,Sem.run_bind,qc hd,Result.andThen,Sem.run_pure]
   have hpq:(p==q)=(p.data.toList==q.data.toList):=by
    rw[qrz,MapKept.bytes_beq];obtain ⟨x⟩:=p;obtain ⟨y⟩:=q;simp
   rw[hpq];cases hb:(p.data.toList==q.data.toList) <;> rw[hb] at h <;> simp at h <;> subst h <;> rfl
  ·rename_i fs hd;split at hc
   ·cases hc
   rename_i hs;split at hc <;> try cases hc
   rename_i i hi;simp only[Jg,hd] at fx fy;obtain ⟨ax,ix,hix,lx⟩:=fx;obtain ⟨ay,iy,hiy,ly⟩:=fy;rw[hi] at hix hiy;cases hix;cases hiy;obtain ⟨cs,rfl⟩:∃cs,x=.agg cs:=by cases x <;> simp[V.isAgg] at ax;exact ⟨_,rfl⟩
   obtain ⟨ds,rfl⟩:∃cs,y=.agg cs:=by cases y <;> simp[V.isAgg] at ay;exact ⟨_,rfl⟩
   cases hx with
   | agg hl g=>
    rename_i us
    cases hy with
    | agg hl' g'=>
     rename_i vs;have hx:VR E (.agg cs) (.agg us):=.agg hl g;have hy:VR E (.agg ds) (.agg vs):=.agg hl' g';simp only[V.cells] at h lx ly;have hloop:∀(l:List Field) (os:List (Nat×CK)) (b:Bool),jz P (ZU P d) i.size l=some os→zn cs ds os=some b→
       (forIn (m:=Sem) l ((none,()):Option Bool×Unit) fun f __s=>
        if f.name ≠ "_" then do
         let __do_lift ←part f.type us f.offset
         let __do_lift_1 ←part f.type vs f.offset
         let __do_lift ←Op.equalIn d f.type __do_lift __do_lift_1
         if (!__do_lift)=true then pure (ForInStep.done (some false,()))
          else pure (ForInStep.yield (none,()))
        else pure (ForInStep.yield (none,()))).run P w=.ok (if b then none else some false,()) w:=by
      intro l
      induction l with
      | nil=>
       intro os b hc h;simp only[jz,Option.some.injEq] at hc;subst hc;simp only[zn,Option.some.injEq] at h;subst h;simp
      | cons f l ihl=>
       intro os b hc h;simp only[jz] at hc;split at hc
       ·cases hc
       rename_i hname;split at hc <;> try cases hc
       rename_i k os1 es hk hg hes;have hparts:∃n px py,os1.all (fun o=>decide (o.1<n))=true∧os=os1.map (shift f.offset)++es∧(V.agg cs).part f.offset k=some px∧(V.agg ds).part f.offset k=some py∧Jg P f.type px∧Jg P f.type py∧
         (∀o,o<n→cs[o+f.offset]?=px.cells[o]?)∧(∀o,o<n→ds[o+f.offset]?=py.cells[o]?):=by
        cases k with
        | none=>
         simp only at hc;split at hc <;> cases hc;rename_i hcc;obtain ⟨hle,hall⟩:=hcc;obtain ⟨⟨c,rfl⟩,hns⟩:=qaA hk hg;rw[QU] at h;simp only[qq8,qrY,shift,zn,qr1] at h;have h1:cs[f.offset]?=some (cs[f.offset]'(by omega)):=by simp
         have h2:ds[f.offset]?=some (ds[f.offset]'(by omega)):=by simp
         rw[h1,h2] at h;simp only at h
         have hagg:∀(c:CK) (p q:V),p.isAgg=true∨q.isAgg=true→QH c p q=none:=by
          intro c p q hpq;cases c <;> cases p <;> cases q <;> first|rfl|simp[V.isAgg] at hpq
         have hfit:∀p:V,p.isAgg=false→Jg P f.type p:=fun p hp=>by
          unfold Jg;split
          ·rename_i fs' hfs;exact absurd hfs (hns fs')
          ·exact hp
         refine ⟨1,cs[f.offset]'(by omega),ds[f.offset]'(by omega),hall,rfl,h1,h2,hfit _ ?_,hfit _ ?_,fun o ho=>?_,fun o ho=>?_⟩
         ·cases ha:(cs[f.offset]'(by omega)).isAgg with
          | false=>rfl
          | true=>rw[hagg c _ _ (.inl ha)] at h;cases h
         ·cases ha:(ds[f.offset]'(by omega)).isAgg with
          | false=>rfl
          | true=>rw[hagg c _ _ (.inr ha)] at h;cases h
         ·have:o=0:=by omega
          subst this;rw[qr1,h1,yM]
          ·rfl
          ·cases ha:(cs[f.offset]'(by omega)).isAgg with
           | false=>rfl
           | true=>rw[hagg c _ _ (.inl ha)] at h;cases h
         ·have:o=0:=by omega
          subst this;rw[qr1,h2,yM]
          ·rfl
          ·cases ha:(ds[f.offset]'(by omega)).isAgg with
           | false=>rfl
           | true=>rw[hagg c _ _ (.inr ha)] at h;cases h
        | some n=>
         simp only at hc;split at hc <;> cases hc;rename_i hcc;obtain ⟨hle,hall⟩:=hcc;obtain ⟨px,p1,p2,p3,p4⟩:=qa8 (x:=.agg cs) (off:=f.offset) (n:=n) rfl (by simp only[V.cells];omega);obtain ⟨py,q1,q2,q3,q4⟩:=qa8 (x:=.agg ds) (off:=f.offset) (n:=n) rfl (by simp only[V.cells];omega);refine ⟨n,px,py,hall,rfl,p1,q1,?_,?_,p4,q4⟩
         all_goals
          obtain ⟨fs',hfs⟩:=qeF hk hg
          obtain ⟨i',hi',hn'⟩:=jy hk
          simp only[Jg,hfs]
         ·exact ⟨p2,i',hi',by omega⟩
         ·exact ⟨q2,i',hi',by omega⟩
       obtain ⟨n,px,py,hall,rfl,p1,p2,p3,p4,p5,p6⟩:=hparts;obtain ⟨pu,r1,r2⟩:=JI (P:=P) (w:=w) hk hx (by simp) p1;obtain ⟨pv,s1,s2⟩:=JI (P:=P) (w:=w) hk hy (by simp) p2;simp only[qri,decide_eq_true_eq] at hall;rw[QU,jV (xs':=px.cells) (ys':=py.cells) fun o ho=>⟨p5 o.1 (hall o ho),p6 o.1 (hall o ho)⟩] at h;simp only[List.forIn_cons,ne_eq,hname,not_false_eq_true,if_true,Sem.run_bind,r1,s1,Result.andThen]
       cases he:zn px.cells py.cells os1 with
       | none=>rw[he] at h;cases h
       | some bb=>
        rw[he] at h;have hrun:=ih f.type os1 px py pu pv bb hg r2 s2 p3 p4 he;simp only[hrun]
        cases bb with
        | true=>
         simp only at h;simp only[Bool.not_true,qrn,if_false,Sem.run_pure];exact ihl es b hes h
        | false=>
         simp only[Option.some.injEq] at h;subst h;simp only[Bool.not_false,if_true,Sem.run_pure,qrn,if_false]
     have:=hloop fs.toList os b hc h;simp only[Op.equalIn,Sem.run_bind,qc hd,Result.andThen,run_program,hs,qrn,if_false];rw[←Array.forIn_toList,this];cases b <;> rfl
def qm5(S:St)(sz bytes:Nat)(z:V)(l c:Int):Option (V×St):=
 if 0≤l∧l≤c∧(bytes:Int) * c≤281474976710656∧c≤9223372036854775807∧0<sz∧z.size=sz∧(z.cells.all V.flat)=true then
  some (.arr S.length 0 l.toNat l.toNat,S++[.arr (List.replicate l.toNat z) sz l.toNat])
 else none
theorem qaq{E:En}{S S':St}{P:Program}{w:World}{z r:V}{t e:TypeId}{i:TypeInfo}{zv:Value}{kl kc:IntKind}{l c:Int}(hs:SR E S w)(ht:P.underlying t=some (.slice e))(hi:P.info? e=some i)(hz:i.zero=some zv)(hzz:VR E z zv)(h:qm5 S i.size i.bytes z l c=some (r,S')):
  Sim P E S w (Instr.makeSlice t (.int kl l) (.int kc c)) r S':=by
 unfold qm5 at h;split at h
 case isFalse=>cases h
 rename_i hc;obtain ⟨h1,h2,h3,h4,h5,h6,h7⟩:=hc;simp only[Option.some.injEq,Prod.mk.injEq] at h;obtain ⟨rfl,rfl⟩:=h;have hrun:=run_make (P:=P) w t e i zv ht hi hz kl kc l c h1 h2 h3 h4
 have hno:∀st,E.ρ S.length st=none:=fun st=>by
  cases hr:E.ρ S.length st with
  | none=>rfl
  | some x=>exact absurd (hs.dom _ _ _ hr) (by omega)
 obtain ⟨c1,c2⟩:=hzz.cells (zd h7);have hlc:l.toNat≤c.toNat:=by omega
 obtain ⟨n1,n2⟩:=hs.new (o:=.cells (madeCells zv.cells (c.toNat * i.size)) e (0,0)) (ob:=.arr (List.replicate l.toNat z) i.size l.toNat) (st:=l.toNat) (N:=c.toNat * i.size) (sz:=i.size) (by
  refine ⟨⟨h5,by simp⟩,fun v hv=>?_,fun st y hy hst=>?_⟩
  ·rw[List.mem_replicate] at hv;rw[hv.2];exact h6
  ·by_cases hs1:st=l.toNat
   ·subst hs1;rw[zi] at hy;cases hy;refine ⟨by simp,rfl,_,e,Q5,size_madeCells _ _,qrO _ hlc,fun j v hv hj q c' hc'=>?_⟩;have hv':=qq1 hv;rw[List.mem_replicate] at hv';obtain ⟨_,rfl⟩:=hv';have hq:q<i.size:=by rw[←h6];exact (qqT.1 hc').1
    obtain ⟨d,hd,hdr⟩:=hzz.cells_ex (zd h7) hc'
    have hlt:j * i.size+q<c.toNat * i.size:=by
     have:(j+1) * i.size≤c.toNat * i.size:=qrO _ (by omega);rw[qrJ] at this;omega
    refine ⟨d,?_,hdr.mono (JW (hno _))⟩;have hsz:zv.cells.size=i.size:=by rw[←c1];exact h6
    simp only[madeCells,qso];rw[Array.getElem?_range,if_pos hlt];simp only[qre,hsz];have hqs:=(qrb.1 hd);obtain ⟨hq1,hq2⟩:=hqs;rw[show (j * i.size+q) % i.size=q by rw[Nat.mul_comm,Nat.mul_add_mod,Nat.mod_eq_of_lt hq],getElem!_pos zv.cells q hq1,hq2]
   ·exfalso;simp only[En.at] at hy;rw[if_neg (by simp;exact hs1),hno] at hy;cases hy)
 refine ⟨_,_,_,hrun,?_,n1,n2,by simp⟩;have:=VR.arr (E:=E.at S.length l.toNat ⟨w.heap.size,c.toNat * i.size,i.size⟩) (l:=S.length) (off:=0) (len:=l.toNat) (cap:=c.toNat) (st:=l.toNat) zi (by simp) hlc;simpa using this
def qo3(len sz:Nat)(p:V)(ix:Int):Option V:=if 0≤ix∧ix<len then faV p (ix.toNat * sz) else none
def qk0(P:Program)(t:TypeId):Option (Nat×Nat):=
 match P.underlying t with
 | some (.array n e)=>match P.info? e with
  | some i=>if i.size=0 then none else some (n,i.size)
  | none=>none
 | _=>none
theorem qkT{E:En}{S:St}{P:Program}{w:World}{p r:V}{u:Value}{t:TypeId}{k:IntKind}{n sz:Nat}{ix:Int}(hs:SR E S w)(hp:VR E p u)(ho:qk0 P t=some (n,sz))(h:qo3 n sz p ix=some r):
  Sim P E S w (Instr.indexAt t u (.int k ix)) r S:=by
 unfold qo3 at h;split at h
 case isFalse=>cases h
 rename_i hix;obtain ⟨b,o,rfl,hr⟩:=hp.fa h;unfold qk0 at ho;split at ho <;> try cases ho
 rename_i n' e hu;split at ho <;> try cases ho
 rename_i i hi;split at ho <;> cases ho;rename_i hz;refine Sim.pure hs ?_ hr;simp[Instr.indexAt,asIntOf,qc hu,Result.andThen,Instr.sureAddr,hix.1,hix.2,qW hi,yc]
def bytesOf:List V→Option (List UInt8)
 | []=>some []
 | .int .u8 n::xs=>(bytesOf xs).map fun bs=>UInt8.ofNat n.toNat::bs
 | _=>none
def qnJ(S:St)(p:V):Option V:=
 (elems S p).bind fun xs=>(bytesOf xs).map fun bs=>.str ⟨bs.toArray⟩
theorem Jl:∀{xs:List V} {bs:List UInt8},bytesOf xs=some bs→∃ns:List Int,xs=ns.map (V.int .u8)∧bs=ns.map fun n=>UInt8.ofNat n.toNat
 | [],bs,h=>by cases h;exact ⟨[],rfl,rfl⟩
 | x::xs,bs,h=>by
  unfold bytesOf at h;split at h
  ·rename_i he;cases he
  ·rename_i n xs' he;cases he
   cases hb:bytesOf xs with
   | none=>rw[hb] at h;cases h
   | some bs'=>
    rw[hb] at h;cases h;obtain ⟨ns,h1,h2⟩:=Jl hb;exact ⟨n::ns,by rw[h1];rfl,by rw[h2];rfl⟩
  ·cases h
theorem qbn:∀(ns:List Int) (r:Bz),ns.foldl (fun r n=>r.push (UInt8.ofNat n.toNat)) r=⟨r.data++(ns.map fun n=>UInt8.ofNat n.toNat).toArray⟩
 | [],r=>by cases r;simp
 | n::ns,r=>by
  rw[qsD,qbn ns];simp[ByteArray.push]
theorem qeE(ns:List Int):yw (ns.map (V.int .u8))=ns.map (V.int .u8):=by
 induction ns with
 | nil=>rfl
 | cons n ns ih=>simp only[yw,qq8,qrs] at *;rw[ih];rfl
theorem qld{E:En}{S:St}{P:Program}{w:World}{p r:V}{u:Value}{src dst e:TypeId}(hs:SR E S w)(hp:VR E p u)(h1:P.underlying src=some (.slice e))(h2:P.underlying e=some (.int .u8))(h3:P.underlying dst=some .string)(h:qnJ S p=some r):
  Sim P E S w (convert src dst u) r S:=by
 unfold qnJ at h
 cases hel:elems S p with
 | none=>rw[hel] at h;cases h
 | some xs=>
  rw[hel] at h;simp only[qrh] at h
  cases hb:bytesOf xs with
  | none=>rw[hb] at h;cases h
  | some bs=>
   rw[hb] at h;cases h;obtain ⟨ns,rfl,rfl⟩:=Jl hb
   obtain ⟨a,cap,us,rfl,hrun,hvr⟩:=zq (P:=P) (sz:=1) hs hp hel (fun x hx=>by
    simp only[qrf] at hx;obtain ⟨n,_,rfl⟩:=hx;rfl) (by omega)
   rw[qeE] at hvr
   have hus:us=(ns.map (Value.int .u8)).toArray:=by
    cases hvr with
    | agg hl g=>
     apply Array.ext
     ·simpa using hl.symm
     ·intro i hi1 hi2;have hi:i<ns.length:=by simpa using hi2
      have hq:=g i (.int .u8 ns[i]) us[i] (by simp[hi]) (by simp);have:∀(n:Int) (q:Value),VR E (.int .u8 n) q→q=.int .u8 n:=by intro n q h;cases h;rfl
      rw[this _ _ hq];simp
   refine Sim.pure hs ?_ (.str _);rw[run_convert_bytes_string w src dst e a _ cap h1 h2 h3]
   cases a with
   | none=>
    simp only[Builtin.firstCells,Sem.run_pure,Result.ok.injEq] at hrun
    have:ns=[]:=by
     have h0:=hrun.1;rw[hus] at h0
     cases ns with
     | nil=>rfl
     | cons n ns=>simp at h0
    subst this;simp[Conv.bytesToString];rfl
   | some a=>
    simp only[Builtin.firstCells] at hrun;have:=run_bytesToString (P:=P) w a (ns.map (V.int .u8)).length cap ns (by rw[←hus];simpa using hrun);rw[this,qbn];simp
theorem SR.lay'{E:En}{S:St}{w w':World}(h:SR E S w){cells:Array Value}{t:TypeId}{fz:Nat×Nat}(g1:w'.heap.size=w.heap.size+1)(g2:w'.heap[w.heap.size]?=some (.cells cells t fz))(g3:∀b,b<w.heap.size→w'.heap[b]?=w.heap[b]?)(g4:(w'.output,w'.os)=(w.output,w.os)):
  SR (E.lay w.heap.size cells) S w'∧E.le (E.lay w.heap.size cells)∧Ext S.length E S w (E.lay w.heap.size cells) S w':=by
 have hno:∀o,E.I w.heap.size o=none:=fun o=>by
  cases hc:E.I w.heap.size o with
  | none=>rfl
  | some c=>exact absurd (cell?_lt (h.I _ _ _ hc)) (by omega)
 have hle:E.le (E.lay w.heap.size cells):=⟨fun b o c hc=>by
  by_cases hb:b=w.heap.size
  ·subst hb;rw[hno] at hc;cases hc
  ·simp[En.lay,hb];exact hc,fun _ _ _ h=>h⟩
 refine ⟨⟨h.gl.old hle.1 (fun b _ _ _ hb _=>g3 b (Zp hb)),?_,?_,h.dom,?_,?_,h.inj⟩,hle,⟨by omega,hle.1,fun _ _ _ _ hx=>hx,fun _ _ hx=>hx,fun b hb=>.inl hb,?_,fun b hb _=>g3 b hb,g4⟩⟩
 ·intro b o c hc;by_cases hb:b=w.heap.size
  ·subst hb;simp only[En.lay,if_true] at hc;unfold World.cell?;rw[g2];simpa using hc
  ·simp only[En.lay,hb,if_false] at hc;have:=h.I b o c hc;rw[cell?_heap (g3 b (cell?_lt this))];exact this
 ·intro l o hl;by_cases hd:o=.dead
  ·subst hd;trivial
  exact (h.obs l o hl).mono hle (fun _ _ hx=>hx) (fun st' x hx=>g3 _ (h.lt _ ⟨l,st',x,⟨o,hl,hd⟩,hx,rfl⟩))
 ·intro b o hb;have h1:=h.lt b hb;simp only[En.lay];rw[if_neg (by omega)];exact h.apart b o hb
 ·intro b hb;have:=h.lt b hb;omega
 ·intro b o c hc;by_cases hb:b=w.heap.size
  ·exact .inr (.inr (by omega))
  ·simp only[En.lay,hb,if_false] at hc;exact .inl hc
def qpn(s:Bz):V:=.sl false (s.data.toList.map fun b=>.int .u8 b.toNat)
theorem qkv{E:En}{S:St}{P:Program}{w:World}{s:Bz}{src dst e:TypeId}(hs:SR E S w)(h0:P.underlying src=some .string)(h1:P.underlying dst=some (.slice e))(h2:P.underlying e=some (.int .u8)):Sim P E S w (convert src dst (.string s)) (qpn s) S:=by
 let q:=Question.appendCap s.size 0 e
 let cap:=q.cut (w.tape w.drawn q)
 have hcap:s.size≤cap:=by simp[cap,q,Question.cut]
 let cells:Array Value:=s.data.map (fun b=>Value.int .u8 (b.toNat:Nat))++Array.replicate (cap - s.size) (.int .u8 0)
 let w1:World:={ w with drawn:=w.drawn+1 }
 let w2:World:={ w1 with heap:=w1.heap.push (.cells cells e (0,0)) }
 let w3:World:=w2.freeze { block:=w.heap.size,off:=cells.size } 1
 have hch:(choose q).run P w=.ok cap w1:=by
  simp[choose,Sem.run,Question.forced,cap,q,w1]
 have hrun:(convert src dst (.string s)).run P w=.ok (.slice (some ⟨w.heap.size,0,none⟩) s.size cap) w3:=by
  simp only[convert,Sem.run_bind,qc h0,qc h1,qc h2,Result.andThen,Conv.stringToBytes];rw[show (choose (.appendCap s.size 0 e)).run P w=.ok cap w1 from hch];simp only[yB]
  have hsh:w2.shape? w.heap.size=some (e,cells.size):=by
   simp[World.shape?,w2,w1]
  simp only[markStringish,Sem.run_bind,shape,Sem.run];rw[show ({ w1 with heap:=w1.heap.push (.cells cells e (0,0)) }:World)=w2 from rfl,show w1.heap.size=w.heap.size from rfl,hsh];simp only[Result.andThen,freeze,Sem.run,Sem.run_pure];rfl
 have hw3:w3.heap.size=w.heap.size+1∧(∃fz,w3.heap[w.heap.size]?=some (.cells cells e fz))∧(∀b,b<w.heap.size→w3.heap[b]?=w.heap[b]?)∧(w3.output,w3.os)=(w.output,w.os):=by
  refine ⟨?_,?_,fun b hb=>?_,?_⟩
  ·simp[w3,World.freeze,w2,w1]
  ·refine ⟨(cells.size,cells.size+1),?_⟩;simp only[w3,World.freeze,w2,w1];rw[if_neg (by decide)];simp only[];rw[qsk,if_pos rfl,qrZ,if_pos rfl];rfl
  ·simp only[w3,World.freeze,w2,w1,qsk];rw[if_neg (by decide)];simp only[];rw[qsk,if_neg (by omega),qrZ,if_neg (by omega)]
  ·simp only[w3,World.freeze];rw[if_neg (by decide)]
 obtain ⟨g1,⟨fz,g2⟩,g3,g4⟩:=hw3;obtain ⟨r1,r2,r3⟩:=hs.lay' (cells:=cells) (t:=e) (fz:=fz) g1 g2 g3 g4;refine ⟨_,_,w3,hrun,?_,r1,r3,qqY _⟩
 have hget:∀(j:Nat) (b:UInt8),s.data.toList[j]?=some b→cells[j]?=some (.int .u8 (b.toNat:Nat)):=fun j b hj=>by
  have hlt:j<s.data.size:=by simpa using (qqT.1 hj).1
  simp only[cells];rw[qrW (by simpa using hlt),qso];have:s.data[j]?=some b:=by rw[←qr3];exact hj
  rw[this];rfl
 have hI:∀(j:Nat) (b:UInt8),s.data.toList[j]?=some b→(E.lay w.heap.size cells).I w.heap.size j=some (.int .u8 ((b.toNat:Nat):Int)):=fun j b hj=>by
  simp only[En.lay,if_true];rw[hget j b hj]
 have hlen:s.size=(s.data.toList.map fun b=>V.int .u8 (b.toNat:Nat)).length:=by rw[qq2];rfl
 rw[hlen];refine VR.sl (b:=w.heap.size) (o:=0) (sz:=1) (by rw[←hlen];exact hcap) (fun h=>by cases h) (fun v hv=>?_) (fun i j hi hj=>?_) (fun i v j c' c hv hc hi=>?_)
 ·simp only[qrf] at hv;obtain ⟨b,_,rfl⟩:=hv;rfl
 ·have:j=0:=by omega
  subst this;have hi':i<s.data.toList.length:=by simpa using hi
  rw[qr1,Nat.mul_one,qsV,hI i (s.data.toList[i]) (qqZ hi')];rfl
 ·simp only[qq7,qq3] at hv;obtain ⟨b,hb,rfl⟩:=hv
  have hj:j=0:=by
   have:=(qqT.1 hc).1;simp[V.cells] at this;exact this
  subst hj;simp[V.cells] at hc;subst hc;rw[qr1,Nat.mul_one,qsV,hI i b hb] at hi;cases hi;exact .int _ _
theorem SR.blockSet{E:En}{S:St}{w:World}(h:SR E S w){l:Nat}{o ob:Ob}{x:Blk}{b:Obj}(hl:S[l]?=some o)(hd:o≠.dead)(hx:E.ρ l 0=some x)(hlt:x.b<w.heap.size)
  (hn:OR E { w with heap:=w.heap.setIfInBounds x.b b } l ob):SR E (S.set l ob) { w with heap:=w.heap.setIfInBounds x.b b }∧Ext S.length E S w E (S.set l ob) { w with heap:=w.heap.setIfInBounds x.b b }:=by
 refine h.change (E':=E) (w':={ w with heap:=w.heap.setIfInBounds x.b b }) ⟨o,hl,hd⟩ rfl (En.le_refl E) (fun _ _ _=>rfl) (fun st z hz=>.inl ⟨st,z,hz,rfl⟩) (by simp) (fun b' hb' hne=>?_) rfl hn;show (w.heap.setIfInBounds x.b _)[b']?=_;rw[qrm (hne 0 x hx)]
def qju(S:St)(x:V):Option (V×St):=
 match x with
 | .map lm=>match S[lm]? with
  | some (.map _ _ ck)=>some (.ptr S.length 0 0 0,S++[.iter lm ck [] ck])
  | _=>none
 | _=>none
theorem qg3{E:En}{S S':St}{P:Program}{w:World}{x r:V}{u:Value}{t:TypeId}{q:KeyKd×TypeId×TypeId}(hs:SR E S w)(ht:Jc P t=some q)(hx:VR E x u)(h:qju S x=some (r,S')):
  Sim P E S w (Instr.range t u) r S':=by
 unfold Jc at ht;split at ht <;> try cases ht
 rename_i k' e' hu;unfold qju at h;split at h <;> try cases h
 rename_i lm;split at h <;> try cases h
 rename_i es bs ck hl
 cases hx with
 | map hy=>
  rename_i y;obtain ⟨y',entries,h1,hb,_⟩:=hs.obs lm _ hl;rw[hy] at h1;cases h1;have hlt:lm<S.length:=(qqT.1 hl).1
  have hno:E.ρ S.length 0=none:=by
   cases hr:E.ρ S.length 0 with
   | none=>rfl
   | some z=>exact absurd (hs.dom _ _ _ hr) (by omega)
  have hy':(E.at S.length 0 ⟨w.heap.size,0,0⟩).ρ lm 0=some y:=(JW hno).2 _ _ _ hy;obtain ⟨n1,n2⟩:=hs.new (o:=.mapIter (some y.b) ck #[] ck) (ob:=.iter lm ck [] ck) (st:=0) (N:=0) (sz:=0) ⟨⟨w.heap.size,0,0⟩,y,zi,hy',Q5⟩;refine ⟨.pointer (some ⟨w.heap.size,0,none⟩),_,_,?_,?_,n1,n2,by simp⟩
  ·simp[Instr.range,qc hu,MapKept.run_getObj_map hb,newObj,Sem.run,Result.andThen]
  ·have:=VR.ptr (E:=E.at S.length 0 ⟨w.heap.size,0,0⟩) (l:=S.length) (st:=0) (x:=⟨w.heap.size,0,0⟩) 0 0 zi;simpa using this
def qeQ(S:St)(p:V):List (V×St):=
 match p with
 | .ptr l 0 0 0=>match S[l]? with
  | some (.iter lm since seen last)=>match S[lm]? with
   | some (.map es bs ck)=>if (bs.all fun b=>decide (b<since))=true∧since≤last then
     match (es.zip bs).filter fun q=>!seen.contains q.2 with
     | []=>[(.tup [.bool false],S)]
     | c::cs=>(c::cs).map fun q=>(.tup [.bool true,q.1.1,q.1.2],S.set l (.iter lm since (seen++[q.2]) ck))
    else []
   | _=>[]
  | _=>[]
 | _=>[]
theorem qiu{E:En}{S:St}{P:Program}{w:World}{p:V}{u:Value}{t:TypeId}(hs:SR E S w)(hp:VR E p u)(h:qeQ S p≠[]):∃q,q∈qeQ S p∧Sim P E S w (Instr.next u false t) q.1 q.2:=by
 unfold qeQ at h ⊢;split at h <;> try exact absurd rfl h
 rename_i l;split at h <;> try exact absurd rfl h
 rename_i lm since seen last hl;split at h <;> try exact absurd rfl h
 rename_i es bs ck hm;split at h
 case isFalse=>exact absurd rfl h
 rename_i hc;rw[if_pos hc];obtain ⟨hall,hsc⟩:=hc
 cases hp with
 | ptr i off hr=>
  rename_i x;obtain ⟨x',y,h1,h2,h3⟩:=hs.obs l _ hl;rw[hr] at h1;cases h1;obtain ⟨y',entries,g1,g2,g3,g4,g5⟩:=hs.obs lm _ hm;rw[h2] at g1;cases g1;have hlt:x.b<w.heap.size:=(qrb.1 h3).1
  have hold:∀e∈entries.toList,e.born<since:=fun e he=>by
   simp only[qri,decide_eq_true_eq] at hall;exact hall e.born (by rw[g4];exact qrG he)
  have hleft:∀e,e∈entries.toList→seen.contains e.born=false→∃k v,((k,v),e.born)∈(es.zip bs).filter (fun q=>!seen.contains q.2)∧VR E k e.key∧VR E v e.val:=by
   intro e he hse;obtain ⟨j,hj⟩:=qrI he;have hj1:j<entries.toList.length:=(qqT.1 hj).1;have hj2:j<es.length:=by rw[g3];simpa using hj1
   have hes:es[j]?=some es[j]:=qqZ hj2;obtain ⟨a,b⟩:=g5 j es[j].1 es[j].2 e hes (by simpa using hj);refine ⟨es[j].1,es[j].2,?_,a,b⟩;rw[qrR];refine ⟨?_,by simpa using hse⟩;have hbs:bs[j]?=some e.born:=by rw[g4,qq7,hj];rfl
   exact qq1 (show (es.zip bs)[j]?=some (es[j],e.born) by rw[qsa];exact ⟨hes,hbs⟩)
  have hnil:(leftOf entries seen.toArray).size=0↔(es.zip bs).filter (fun q=>!seen.contains q.2)=[]:=by
   unfold leftOf;rw[Array.size_eq_zero_iff,Array.filter_eq_empty_iff,List.filter_eq_nil_iff];constructor
   ·intro hh q hq;obtain ⟨j,hj⟩:=qrI hq;rw[qsa] at hj;have hb:=hj.2;rw[g4,qq7,qq3] at hb;obtain ⟨e,he,hbe⟩:=hb;have:=hh e (by simpa using qq1 he);rw[←hbe];simpa using this
   ·intro hh e he;intro hse;obtain ⟨k,v,hmem,_⟩:=hleft e (by simpa using he) (by simpa using hse);rw[qrR] at hmem;exact hh _ hmem.1 hmem.2
  have hu:(Value.pointer (some ⟨x.b,0 * x.sz+0,none⟩))=.pointer (some ⟨x.b,0,none⟩):=by simp
  rw[hu];rcases run_next_at (P:=P) w t x.b y.b since last seen.toArray entries ck h3 g2 hold hsc with ⟨hz,hrun⟩|⟨e,he,w1,hw1,hrun⟩
  ·rw[hnil.1 hz];refine ⟨_,qrN.2 rfl,_,E,w,hrun,.tup rfl fun i v u hv hu=>?_,hs,Ext.refl _ _ _ _,qqY _⟩
   match i with
   | 0=>simp at hv hu;subst hv;subst hu;exact .bool _
   | i+1=>simp at hv
  ·have he':e∈entries.toList∧seen.contains e.born=false:=by
    simp only[leftOf,Array.toList_filter,qrR] at he;exact ⟨he.1,by simpa using he.2⟩
   obtain ⟨k,v,hmem,hk,hv⟩:=hleft e he'.1 he'.2;have hs1:SR E S w1:=by rcases hw1 with rfl|rfl <;> first|exact hs|exact hs.heap rfl
   have hx1:Ext S.length E S w E S w1:=by rcases hw1 with rfl|rfl <;> first|exact Ext.refl _ _ _ _|exact Ext.heap _ rfl rfl
   have hlt1:x.b<w1.heap.size:=by rcases hw1 with rfl|rfl <;> exact hlt
   obtain ⟨s1,s2⟩:=hs1.blockSet (ob:=.iter lm since (seen++[e.born]) ck) (b:=.mapIter (some y.b) since (seen.toArray.push e.born) ck) hl (by simp) hr hlt1 ⟨x,y,hr,h2,by simp[hlt1]⟩
   have hq:(V.tup [.bool true,k,v],S.set l (.iter lm since (seen++[e.born]) ck))∈(match (es.zip bs).filter fun q=>!seen.contains q.2 with
     | []=>[(V.tup [.bool false],S)]
     | c::cs=>(c::cs).map fun (q:(V×V)×Nat)=>(V.tup [.bool true,q.1.1,q.1.2],S.set l (.iter lm since (seen++[q.2]) ck))):=by
    cases hf:(es.zip bs).filter fun q=>!seen.contains q.2 with
    | nil=>rw[hf] at hmem;cases hmem
    | cons c cs=>rw[hf] at hmem;exact qrf.2 ⟨_,hmem,rfl⟩
   refine ⟨_,hq,_,E,_,hrun,?_,s1,hx1.trans s2,by simp⟩;refine .tup rfl fun i a b ha hb=>?_
   match i with
   | 0=>simp at ha hb;subst ha;subst hb;exact .bool _
   | 1=>simp at ha hb;subst ha;subst hb;exact hk
   | 2=>simp at ha hb;subst ha;subst hb;exact hv
   | i+3=>simp at ha
def qjN(S:St)(p:V):Option V:=
 match p with
 | .ptr l 0 0 0=>match S[l]? with
  | some (.iter lm _ seen last)=>match S[lm]? with
   | some (.map es bs ck)=>if ck=last∧bs.Nodup then match seen.getLast? with
     | some b=>match (es.zip bs).find? fun q=>q.2==b with
      | some q=>some (.tup [q.1.1,q.1.2])
      | none=>none
     | none=>none
    else none
   | _=>none
  | _=>none
 | _=>none
theorem qgf{E:En}{S:St}{P:Program}{w:World}{p r:V}{u:Value}(hs:SR E S w)(hp:VR E p u)(h:qjN S p=some r):Sim P E S w (Instr.entry u) r S:=by
 unfold qjN at h;split at h <;> try cases h
 rename_i l;split at h <;> try cases h
 rename_i lm since seen last hl;split at h <;> try cases h
 rename_i es bs ck hm;split at h <;> try cases h
 rename_i hc;obtain ⟨rfl,hnd⟩:=hc;split at h <;> try cases h
 rename_i b hb;split at h <;> try cases h
 rename_i q hq
 cases hp with
 | ptr i off hr=>
  rename_i x;obtain ⟨x',y,h1,h2,h3⟩:=hs.obs l _ hl;rw[hr] at h1;cases h1;obtain ⟨y',entries,g1,g2,g3,g4,g5⟩:=hs.obs lm _ hm;rw[h2] at g1;cases g1;have hu:(Value.pointer (some ⟨x.b,0 * x.sz+0,none⟩))=.pointer (some ⟨x.b,0,none⟩):=by simp
  rw[hu];have hqb:q.2=b:=by simpa using List.find?_some hq
  obtain ⟨j,hj⟩:=qrI (qsH hq);rw[qsa] at hj;have hbj:=hj.2;rw[g4,qq7,qq3] at hbj;obtain ⟨e,he,hbe⟩:=hbj;obtain ⟨k1,k2⟩:=g5 j q.1.1 q.1.2 e hj.1 (by simpa using he)
  have hseen:seen.toArray=seen.dropLast.toArray.push e.born:=by
   rw[hbe,hqb]
   have:seen=seen.dropLast++[b]:=by
    obtain ⟨zs,rfl⟩:=List.getLast?_eq_some_iff.1 hb;simp
   conv=>lhs;rw[this]
   simp
  rw[hseen] at h3;have hrun:=run_entry_at (P:=P) w x.b y.b since seen.dropLast.toArray entries ck e h3 g2 (by simpa using qq1 he) (by rw[←g4];exact hnd);refine ⟨_,E,w,hrun,.tup rfl fun i a b ha hb=>?_,hs,Ext.refl _ _ _ _,qqY _⟩
  match i with
  | 0=>simp at ha hb;subst ha;subst hb;exact k1
  | 1=>simp at ha hb;subst ha;subst hb;exact k2
  | i+2=>simp at ha
def qmp(S:St)(kd:KeyKd)(x k:V):Option St:=
 if jQ kd k=true then match x with
  | .map l=>match S[l]? with
   | some (.map es bs ck)=>match zG kd k es 0 with
    | some (some (i,_))=>some (S.set l (.map (es.eraseIdx i) (bs.eraseIdx i) ck))
    | some none=>some (S.set l (.map es bs ck))
    | none=>none
   | _=>none
  | _=>none
 else none
theorem qeB{E:En}{S S':St}{P:Program}{w:World}{x k:V}{u ku:Value}{ts:Array TypeId}{T t kt et:TypeId}{kd:KeyKd}(hs:SR E S w)(hts:ts[0]?=some t)(ht:Jc P t=some (kd,kt,et))(hx:VR E x u)(hk:VR E k ku)(h:qmp S kd x k=some S'):
  Sim P E S w (Builtin.delete_ ts T #[u,ku]) (.tup []) S':=by
 unfold Jc at ht;split at ht <;> try cases ht
 rename_i k' e' hu
 cases hkk:Jf P k' with
 | none=>rw[hkk] at ht;cases ht
 | some kd'=>
  rw[hkk] at ht;simp only[qre,Option.some.injEq,Prod.mk.injEq] at ht;obtain ⟨rfl,rfl,rfl⟩:=ht
  have hd:∃d,P.underlying k'=some d:=by
   unfold Jf at hkk
   cases hd:P.underlying k' with
   | none=>rw[hd] at hkk;cases hkk
   | some d=>exact ⟨d,rfl⟩
  obtain ⟨d,hd⟩:=hd;unfold qmp at h;split at h
  case isFalse=>cases h
  rename_i hki;have hkey:=JU hkk hd hk hki;split at h <;> try cases h
  rename_i l;split at h <;> try cases h
  rename_i es bs clock hl
  cases hx with
  | map hy=>
   rename_i y;obtain ⟨y',entries,h1,hb,h3,hbs,h4⟩:=hs.obs l _ hl;rw[hy] at h1;cases h1;have hent:ZK E es entries.toList:=⟨by simpa using h3,fun i k v e hk he=>h4 i k v e hk (by simpa using he)⟩;have hck:∀b,(Instr.checkKey b 10000 k' ku).run P w=.ok () w:=fun b=>MapKept.run_checkKey hd hkey _ _
   have hlt:y.b<w.heap.size:=(qrb.1 hb).1;split at h <;> try cases h
   ·rename_i i v0 hf;rcases yf hkk hd hk es entries.toList 0 _ hent hf with ⟨g1,_⟩|⟨j,v',e,g1,g2,g3,g4,g5,g6,g7⟩
    ·cases g1
    ·simp only[Option.some.injEq,Prod.mk.injEq,qr1] at g1;obtain ⟨rfl,rfl⟩:=g1;have hfk:=MapKept.run_findKey (P:=P) (w:=w) hd g2;have hij:i<entries.size:=by rw[←h3];exact g6
     have her:(entries.eraseIdxIfInBounds i).toList=entries.toList.eraseIdx i:=by
      unfold Array.eraseIdxIfInBounds;rw[dif_pos hij];simp
     have hsz:(entries.eraseIdxIfInBounds i).size=(entries.toList.eraseIdx i).length:=by rw[←her,qr0]
     have hmap:∀(l:List MapEntry) (i:Nat),(l.map (·.born)).eraseIdx i=(l.eraseIdx i).map (·.born):=by
      intro l
      induction l with
      | nil=>intro i;rfl
      | cons a l ih=>
       intro i
       cases i with
       | zero=>rfl
       | succ i=>simp only[qq8,List.eraseIdx_cons_succ,ih]
     obtain ⟨s1,s2⟩:=hs.blockSet (ob:=.map (es.eraseIdx i) (bs.eraseIdx i) clock) (b:=.map (entries.eraseIdxIfInBounds i) clock) hl (by simp) hy hlt ⟨y,entries.eraseIdxIfInBounds i,hy,by simp[hlt],by
       rw[hsz,List.length_eraseIdx,List.length_eraseIdx];simp[h3],by rw[her,hbs,hmap],fun j' k2 v2 e2 hk2 he2=>by
       have he2':(entries.toList.eraseIdx i)[j']?=some e2:=by rw[←her,qr3];exact he2
       rw[List.getElem?_eraseIdx] at hk2 he2';split at hk2 <;> rename_i hji
       ·rw[if_pos hji] at he2';exact h4 j' k2 v2 e2 hk2 (by simpa using he2')
       ·rw[if_neg hji] at he2';exact h4 (j'+1) k2 v2 e2 hk2 (by simpa using he2')⟩
     refine ⟨.tuple #[],E,_,?_,.tup rfl (fun i v u hv=>by simp at hv),s1,s2,by simp⟩;simp[Builtin.delete_,hts,qc hu,MapKept.run_getObj_map hb,hck,hfk,MapKept.run_setObj_map _ hb,Result.andThen]
   ·rename_i hf;rcases yf hkk hd hk es entries.toList 0 _ hent hf with ⟨_,g2⟩|⟨j',v',e,g1,_⟩
    ·have hfk:=MapKept.run_findKey (P:=P) (w:=w) hd g2;obtain ⟨s1,s2⟩:=hs.blockSet (ob:=.map es bs clock) (b:=.map entries clock) hl (by simp) hy hlt ⟨y,entries,hy,by simp[hlt],h3,hbs,h4⟩;refine ⟨.tuple #[],E,_,?_,.tup rfl (fun i v u hv=>by simp at hv),s1,s2,by simp⟩;simp[Builtin.delete_,hts,qc hu,MapKept.run_getObj_map hb,hck,hfk,MapKept.run_setObj_map _ hb,Result.andThen]
    ·cases g1
inductive Opd where
 | t (n:Nat)
 | c (v:V)
 | f (k:FuncId)
 deriving Inhabited
def Opd.ev(e:Env):Opd→Option V
 | .t n=>e.get n
 | .c v=>some v
 | .f k=>some (.fn (.func k) [] [])
def qo4:Value→V
 | .bool b=>.bool b
 | .int k n=>.int k n
 | .string s=>.str s
 | .pointer none=>.nilp
 | .slice none 0 0=>.sl true []
 | .map none=>.nilmap
 | .nilFunc=>.nilfn
 | .nilIface=>.niliface
 | _=>.top
def vOf:Value→V
 | .agg cs=>.agg (cs.toList.map qo4)
 | v=>qo4 v
theorem qaP(E:En)(v:Value):VR E (qo4 v) v:=by
 unfold qo4;split <;> constructor
theorem ZI(E:En)(v:Value):VR E (vOf v) v:=by
 unfold vOf;split
 ·rename_i cs;refine .agg (by simp) fun i v u hv hu=>?_
  simp only[qq7,qq3] at hv;obtain ⟨x,hx,rfl⟩:=hv;simp at hx;rw[hx] at hu;cases hu;exact qaP E _
 ·exact qaP E _
def qj:Operand→Option Opd
 | .tmp t=>some (.t t)
 | .const v=>some (.c (vOf v))
 | .func f=>some (.f f)
 | .global g=>some (.c (.glob g 0))
theorem qp{E:En}{e:Env}{a:Act}{o:Operand}{o':Opd}{v:V}(ht:Z5 E e a.tmps)(hc:qj o=some o')(hv:o'.ev e=some v):VR E v (a.eval o):=by
 cases o <;> simp only[qj,Option.some.injEq,reduceCtorEq] at hc <;> subst hc
 ·simp only[Opd.ev] at hv;obtain ⟨u,hu,hr⟩:=ht _ _ hv;simp only[Act.eval];rw[show a.tmps.getD _ undef=u by simp[hu]];exact hr
 ·simp only[Opd.ev,Option.some.injEq] at hv;subst hv;exact ZI E _
 ·simp only[Opd.ev,Option.some.injEq] at hv;subst hv;exact .glob _ _
 ·simp only[Opd.ev,Option.some.injEq] at hv;subst hv;exact .fn rfl rfl (fun i v u h=>by simp at h) (fun i v u h=>by simp at h)
def Opd.tmps:Opd→List Nat
 | .t n=>[n]
 | _=>[]
def evs(e:Env):List Opd→Option (List V)
 | []=>some []
 | x::xs=>match x.ev e,evs e xs with
  | some v,some vs=>some (v::vs)
  | _,_=>none
def qB(e:Env):List (Nat×Nat×Nat×Opd)→Option (List (Nat×Nat×Nat×V))
 | []=>some []
 | (f,o,n,x)::ps=>match x.ev e,qB e ps with
  | some v,some vs=>some ((f,o,n,v)::vs)
  | _,_=>none
def intOf?:V→Option Int
 | .int _ n=>some n
 | _=>none
def JC(e:Env):Option Opd→Option (Option Int)
 | none=>some none
 | some x=>match x.ev e with
  | some (.int _ n)=>some (some n)
  | _=>none
inductive X where
 | eqs (neg:Bool) (sz:Nat) (os:List (Nat×CK)) (x y:Opd)
 | eqn (neg:Bool) (x:Opd)
 | lkp (kd:KeyKd) (z:V) (ok:Bool) (x k:Opd)
 | mup (kd:KeyKd) (x k v:Opd)
 | mkm
 | mm (mx:Bool) (x y:Opd)
 | mks (sz bytes:Nat) (z:V) (l c:Opd)
 | iaa (n sz:Nat) (x i:Opd)
 | cts (x:Opd)
 | ctb (x:Opd)
 | rng (x:Opd)
 | nxt (x:Opd)
 | ent (x:Opd)
 | del (kd:KeyKd) (x k:Opd)
 | wrap (n:Nat) (x:Opd)
 | ixa (len sz:Nat) (kd:Option Nat) (x i:Opd)
 deriving Inhabited
def mmV(mx:Bool):V→V→Option V
 | .int k a,.int _ b=>some (.int k (if mx then (if b > a then b else a) else (if b<a then b else a)))
 | _,_=>none
def evX(e:Env)(S:St):X→Option (V×St)
 | .eqs neg sz os x y=>match x.ev e,y.ev e with
  | some (.agg cs),some (.agg ds)=>if cs.length=sz∧ds.length=sz then (zn cs ds os).map fun b=>(.bool (if neg then !b else b),S) else none
  | _,_=>none
 | .eqn neg x=>match x.ev e with
  | some (.sl _ (_::_))=>some (.bool neg,S)
  | some (.arr ..)=>some (.bool neg,S)
  | _=>none
 | .lkp kd z ok x k=>match x.ev e,k.ev e with
  | some m,some key=>(qbT S kd z ok m key).map fun r=>(r,S)
  | _,_=>none
 | .mup kd x k v=>match x.ev e,k.ev e,v.ev e with
  | some m,some key,some val=>(qaV S kd m key val).map fun S'=>(.tup [],S')
  | _,_,_=>none
 | .mkm=>some (.map S.length,S++[.map [] [] 0])
 | .mm mx x y=>match x.ev e,y.ev e with
  | some u,some v=>(mmV mx u v).map fun r=>(r,S)
  | _,_=>none
 | .mks sz bytes z l c=>match l.ev e,c.ev e with
  | some (.int _ l),some (.int _ c)=>qm5 S sz bytes z l c
  | _,_=>none
 | .iaa n sz x i=>match x.ev e,i.ev e with
  | some p,some (.int _ ix)=>(qo3 n sz p ix).map fun r=>(r,S)
  | _,_=>none
 | .cts x=>(x.ev e).bind fun p=>(qnJ S p).map fun r=>(r,S)
 | .ctb x=>match x.ev e with
  | some (.str s)=>some (qpn s,S)
  | _=>none
 | .rng x=>(x.ev e).bind fun v=>qju S v
 | .nxt _=>none
 | .ent x=>(x.ev e).bind fun v=>(qjN S v).map fun r=>(r,S)
 | .del kd x k=>match x.ev e,k.ev e with
  | some m,some key=>(qmp S kd m key).map fun S'=>(.tup [],S')
  | _,_=>none
 | .wrap n x=>(x.ev e).bind fun v=>if v.size=n∧(v.cells.all V.flat)=true then some (.agg v.cells,S) else none
 | .ixa len sz kd x i=>match x.ev e,i.ev e with
  | some v,some (.int _ ix)=>if v.isAgg=true∧0≤ix∧ix<len then (v.part (ix.toNat * sz) kd).map fun r=>(r,S) else none
  | _,_=>none
def ndX(e:Env):X→List V
 | .eqn _ x=>match x.ev e with
  | some (.sl _ [])=>[.bool true,.bool false]
  | _=>[]
 | _=>[]
def X.tmps:X→List Nat
 | .eqs _ _ _ x y|.lkp _ _ _ x y|.mm _ x y|.mks _ _ _ x y|.iaa _ _ x y|.del _ x y|.ixa _ _ _ x y=>x.tmps++y.tmps
 | .eqn _ x|.cts x|.ctb x|.rng x|.nxt x|.ent x|.wrap _ x=>x.tmps
 | .mup _ x k v=>x.tmps++k.tmps++v.tmps
 | .mkm=>[]
def X.writes:X→Bool
 | .mup ..|.mkm|.mks ..|.rng ..|.nxt ..|.del ..=>true
 | _=>false
def X.reads:X→Bool
 | .mup ..|.mkm|.lkp ..|.mks ..|.cts ..|.rng ..|.nxt ..|.ent ..|.del ..=>true
 | _=>false
def Jk:Operand→Bool
 | .const (.slice none 0 0)=>true
 | _=>false
def qo7:Option TypeDesc→Bool
 | some (.int .u8)=>true
 | _=>false
theorem qbb{d:Option TypeDesc}(h:qo7 d=true):d=some (.int .u8):=by
 unfold qo7 at h;split at h
 ·rfl
 ·cases h
def Jy(P:Program)(o:Oper):Option X:=
 match o.op with
 | .binOp op t x y _=>match op==.eql || op==.neq with
  | false=>none
  | true=>match P.underlying t with
   | some (.struct _)=>if P.eqGuardType P.depth t=true then none else match ZU P 10000 t,P.info? t,qj x,qj y with
    | some os,some i,some x,some y=>some (.eqs (op==.neq) i.size os x y)
    | _,_,_,_=>none
   | some (.slice _)=>if Jk y=true then (qj x).map (.eqn (op==.neq)) else none
   | _=>none
 | .lookup t x k ok=>match Jc P t with
  | some (kd,_,et)=>match P.info? et,qj x,qj k with
   | some i,some x,some k=>i.zero.map fun z=>.lkp kd (vOf z) ok x k
   | _,_,_=>none
  | none=>none
 | .mapUpdate t m k x|.insert t m k x=>match Jc P t,qj m,qj k,qj x with
  | some (kd,_,_),some m,some k,some x=>some (.mup kd m k x)
  | _,_,_,_=>none
 | .makeMap _ none=>some .mkm
 | .makeSlice t l c=>match P.underlying t with
  | some (.slice e)=>match P.info? e,qj l,qj c with
   | some i,some l,some c=>i.zero.map fun z=>.mks i.size i.bytes (vOf z) l c
   | _,_,_=>none
  | _=>none
 | .indexAddr t x i=>match qk0 P t,qj x,qj i with
  | some (n,sz),some x,some i=>some (.iaa n sz x i)
  | _,_,_=>none
 | .convert src dst x=>match P.underlying src,P.underlying dst,qj x with
  | some (.slice e),some .string,some x=>if qo7 (P.underlying e)=true then some (.cts x) else none
  | some .string,some (.slice e),some x=>if qo7 (P.underlying e)=true then some (.ctb x) else none
  | _,_,_=>none
 | .call c=>match c.callee,c.args.toList.mapM qj with
  | .builtin .max,some [x,y]=>some (.mm true x y)
  | .builtin .min,some [x,y]=>some (.mm false x y)
  | .builtin .delete,some [x,y]=>match c.argTypes[0]? with
   | some t=>(Jc P t).bind fun p=>some (.del p.1 x y)
   | none=>none
  | _,_=>none
 | .range t x=>match Jc P t,qj x with
  | some _,some x=>some (.rng x)
  | _,_=>none
 | .next x false=>(qj x).map .nxt
 | .entry x=>(qj x).map .ent
 | .build t ps=>match P.info? t,yd P t with
  | some i,some l=>match i.zero with
   | some z=>match ps.toList with
    | [(j,x)]=>match l[j]?,qj x with
     | some (0,n),some x=>if z.cells.size=n then some (.wrap n x) else none
     | _,_=>none
    | _=>none
   | none=>none
  | _,_=>none
 | .index t x i=>match P.underlying t with
  | some (.array n e)=>match P.info? e,zf P e,qj x,qj i with
   | some ei,some k,some x,some i=>some (.ixa n ei.size k x i)
   | _,_,_,_=>none
  | _=>none
 | _=>none
inductive EqKd where
 | bool|ptr|func
 deriving DecidableEq,Inhabited
inductive K where
 | mv (x:Opd)
 | pick (c a b:Opd)
 | new (z:V)
 | box (x:Opd)
 | build (z:V) (ps:List (Nat×Nat×Nat×Opd))
 | bsl (sz:Nat) (xs:List Opd)
 | ld (k:Option Nat) (a:Opd)
 | sto (n:Nat) (a x:Opd)
 | nck (x:Opd)
 | bin (op:BinOp) (x y:Opd)
 | eq (kd:EqKd) (neg:Bool) (x y:Opd)
 | un (op:UnOp) (x:Opd)
 | fa (off:Nat) (x:Opd)
 | ia (sz:Nat) (x i:Opd)
 | idx (x i:Opd)
 | fld (off:Nat) (k:Option Nat) (x:Opd)
 | slc (s:Bool) (sz:Nat) (x:Opd) (lo hi:Option Opd)
 | ext (i:Nat) (x:Opd)
 | len (s:Bool) (x:Opd)
 | app (sz bytes:Nat) (d x:Opd)
 | mkf (k:FuncId) (fs cs:List Opd)
 | conv (k:IntKind) (x:Opd)
 | call (f:Opd) (args:List Opd)
 | ex (k:X)
 deriving Inhabited
def zY:V→Bool
 | .ptr ..=>true
 | .iptr ..=>true
 | .fn (.func _) _ _=>true
 | _=>false
def zT:EqKd→V→V→Bool
 | .bool,.bool _,.bool _=>true
 | .ptr,.nilp,.nilp|.ptr,.nilp,.ptr ..|.ptr,.nilp,.iptr ..|.ptr,.ptr ..,.nilp|.ptr,.iptr ..,.nilp=>true
 | .func,.nilfn,.nilfn|.func,.nilfn,.fn ..|.func,.fn ..,.nilfn=>true
 | _,_,_=>false
def evK(e:Env)(S:St):K→Option (V×St)
 | .mv x=>(x.ev e).map fun v=>(v,S)
 | .pick c a b=>match c.ev e with
  | some (.bool t)=>((if t then a else b).ev e).map fun v=>(v,S)
  | _=>none
 | .new z=>qG S z
 | .box x=>(x.ev e).bind fun v=>qG S v
 | .build z ps=>(qB e ps).bind fun l=>(qF z (l.map fun p=>p.2)).map fun v=>(v,S)
 | .bsl sz xs=>(evs e xs).bind fun l=>if fits sz l=true∧l.length * sz≤2 ^ 24 then some (.sl true l,S) else none
 | .ld k a=>(a.ev e).bind fun p=>(ldS S p k).map fun v=>(v,S)
 | .sto n a x=>match a.ev e,x.ev e with
  | some p,some v=>(stS S p n v).map fun S'=>(.tup [],S')
  | _,_=>none
 | .nck x=>(x.ev e).bind fun v=>if zY v=true then some (v,S) else none
 | .bin op x y=>match x.ev e,y.ev e with
  | some u,some v=>(qjy op u v).map fun r=>(r,S)
  | _,_=>none
 | .eq kd neg x y=>match x.ev e,y.ev e with
  | some u,some v=>if zT kd u v=true then (eqV u v).map fun b=>(.bool (if neg then !b else b),S) else none
  | _,_=>none
 | .un op x=>(x.ev e).bind fun v=>(unV op v).map fun r=>(r,S)
 | .fa off x=>(x.ev e).bind fun v=>(faV v off).map fun r=>(r,S)
 | .ia sz x i=>match x.ev e,i.ev e with
  | some p,some (.int _ ix)=>(iaS S sz p ix).map fun r=>(r,S)
  | _,_=>none
 | .idx x i=>match x.ev e,i.ev e with
  | some (.str s),some (.int _ ix)=>(qhw s ix).map fun r=>(r,S)
  | _,_=>none
 | .fld off k x=>(x.ev e).bind fun v=>if v.isAgg=true then (v.part off k).map fun r=>(r,S) else none
 | .slc s sz x lo hi=>match x.ev e,JC e lo,JC e hi with
  | some d,some l,some h=>match s,d with
   | true,.str b=>(zU S sz (.str b) l h).map fun r=>(r,S)
   | false,.sl ..|false,.arr ..=>(zU S sz d l h).map fun r=>(r,S)
   | _,_=>none
  | _,_,_=>none
 | .ext i x=>match x.ev e with
  | some (.tup vs)=>(vs[i]?).map fun r=>(r,S)
  | _=>none
 | .len s x=>(x.ev e).bind fun v=>match s,v with
  | true,.str b=>some (.int .i64 b.size,S)
  | false,.sl _ xs=>some (.int .i64 xs.length,S)
  | false,.arr _ _ n _=>some (.int .i64 n,S)
  | _,_=>none
 | .app sz bytes d x=>match d.ev e,x.ev e with
  | some u,some v=>Jz S sz bytes u v
  | _,_=>none
 | .mkf k fs cs=>match evs e fs,evs e cs with
  | some us,some vs=>some (.fn (.func k) us vs,S)
  | _,_=>none
 | .conv k x=>match x.ev e with
  | some (.int _ n)=>some (.int k (k.wrap n),S)
  | _=>none
 | .call _ _=>none
 | .ex k=>evX e S k
def qaR(P:Program)(t:TypeId)(ps:List (Nat×Operand)):Option (List (Nat×Nat×Nat×Opd)):=
 match yd P t with
 | none=>none
 | some l=>ps.mapM fun (i,x)=>match l[i]?,qj x with
  | some (o,n),some y=>some (i,o,n,y)
  | _,_=>none
def qhD:Nat→List (Nat×Operand)→Bool
 | _,[]=>true
 | k,(i,_)::ps=>i==k && qhD (k+1) ps
def qpi(P:Program)(t:TypeId):Option EqKd:=
 match P.underlying t with
 | some .bool=>some .bool
 | some (.pointer _)=>some .ptr
 | some (.func ..)=>some .func
 | _=>none
def qpp(P:Program)(t:TypeId):Bool:=
 match P.underlying t with
 | some (.int _)=>true
 | some .string=>true
 | _=>false
def yU(P:Program)(o:Oper):Option K:=
 match o.op with
 | .move x|.assign x=>(qj x).map .mv
 | .pick c a b=>match qj c,qj a,qj b with
  | some c,some a,some b=>some (.pick c a b)
  | _,_,_=>none
 | .alloc t=>match P.info? t with
  | some i=>match i.zero with
   | some z=>some (.new (vOf z))
   | none=>none
  | none=>none
 | .box _ x=>(qj x).map .box
 | .build t ps=>match P.info? t with
  | some i=>match i.zero with
   | some z=>match vOf z,qaR P t ps.toList with
    | .agg cs,some l=>if (l.all fun p=>!(p.2.1==0 && p.2.2.1==cs.length))=true then some (.build (.agg cs) l) else none
    | _,_=>none
   | none=>none
  | none=>none
 | .buildSlice t n ps=>match qpf P t,ps.toList.mapM fun p=>qj p.2 with
  | some sz,some l=>if n=ps.size∧qhD 0 ps.toList=true then some (.bsl sz l) else none
  | _,_=>none
 | .load t a=>match zf P t,qj a with
  | some k,some a=>some (.ld k a)
  | _,_=>none
 | .store t a x=>match P.info? t,qj a,qj x with
  | some i,some a,some x=>some (.sto i.size a x)
  | _,_,_=>none
 | .nilCheck x=>(qj x).map .nck
 | .binOp op t x y _=>match qj x,qj y with
  | some x,some y=>if qpp P t=true then some (.bin op x y) else match qpi P t with
   | some kd=>match op with
    | .eql=>some (.eq kd false x y)
    | .neq=>some (.eq kd true x y)
    | _=>none
   | none=>none
  | _,_=>none
 | .unOp op _ x=>(qj x).map (.un op)
 | .convert t d x=>match P.underlying t,P.underlying d,qj x with
  | some _,some (.int k),some x=>some (.conv k x)
  | _,_,_=>none
 | .fieldAddr t x f=>match qam P t f,qj x with
  | some off,some x=>some (.fa off x)
  | _,_=>none
 | .field t x f=>match ju P t f,qj x with
  | some (off,k),some x=>some (.fld off k x)
  | _,_=>none
 | .indexAddr t x i=>match Q1 P t,qj x,qj i with
  | some sz,some x,some i=>some (.ia sz x i)
  | _,_,_=>none
 | .index t x i=>match P.underlying t,qj x,qj i with
  | some .string,some x,some i=>some (.idx x i)
  | _,_,_=>none
 | .slice t x lo hi none=>match qj x,(match lo with|none=>some none|some y=>(qj y).map some),(match hi with|none=>some none|some y=>(qj y).map some) with
  | some x,some lo,some hi=>match P.underlying t with
   | some .string=>some (.slc true 0 x lo hi)
   | _=>match Q1 P t with
    | some sz=>some (.slc false sz x lo hi)
    | none=>none
  | _,_,_=>none
 | .extract x i=>(qj x).map (.ext i)
 | .makeFunc (.func k) fs cs=>match fs.toList.mapM qj,cs.toList.mapM qj with
  | some fs,some cs=>some (.mkf k fs cs)
  | _,_=>none
 | .call c=>match c.callee,c.args.toList.mapM qj with
  | .value f,some args=>(qj f).map fun f=>.call f args
  | .builtin .len,some [x]=>match c.argTypes[0]? with
   | some t=>match P.underlying t with
    | some .string=>some (.len true x)
    | some (.slice _)=>some (.len false x)
    | _=>none
   | none=>none
  | .builtin .append,some [d,x]=>(qgn P c.argTypes).map fun p=>.app p.1 p.2 d x
  | _,_=>none
 | _=>none
def yi(P:Program)(o:Oper):Option K:=
 match yU P o with
 | some k=>some k
 | none=>(Jy P o).map .ex
def ndK(e:Env):K→List V
 | .ex k=>ndX e k
 | _=>[]
def NR(E:En)(nx:Next)(r:V):Prop:=(∃u,nx=.value u∧VR E r u)∨(nx=.skip∧r=.tup [])
def qcY(P:Program)(E:En)(S:St)(w:World)(s:Sem Next)(r:V)(S':St):Prop:=
 ∃nx E' w',s.run P w=.ok nx w'∧NR E' nx r∧SR E' S' w'∧Ext S.length E S w E' S' w'∧S.length≤S'.length
theorem Sim.next{P:Program}{E:En}{S S':St}{w:World}{s:Sem Value}{r:V}(h:Sim P E S w s r S'):qcY P E S w (do Pure.pure (Next.value (←s))) r S':=by
 obtain ⟨d,E',w',h1,h2,h3⟩:=h;exact ⟨.value d,E',w',by simp[h1,Result.andThen],.inl ⟨d,rfl,h2⟩,h3⟩
theorem qcY.val{P:Program}{E:En}{S:St}{w:World}{u:Value}{r:V}(hs:SR E S w)(h:VR E r u):qcY P E S w (Pure.pure (Next.value u)) r S:=
 ⟨.value u,E,w,rfl,.inl ⟨u,rfl,h⟩,hs,Ext.refl _ _ _ _,qqY _⟩
theorem qcY.cast{P:Program}{E:En}{S S':St}{w:World}{s s':Sem Next}{r:V}(h:qcY P E S w s r S')(e:s'=s):qcY P E S w s' r S':=by rw[e];exact h
theorem Ql{E:En}{e:Env}{a:Act}(ht:Z5 E e a.tmps):∀{os:List Operand} {xs:List Opd} {vs:List V},os.mapM qj=some xs→evs e xs=some vs→
  vs.length=os.length∧∀(i:Nat) (v:V) (o:Operand),vs[i]?=some v→os[i]?=some o→VR E v (a.eval o)
 | [],xs,vs,h1,h2=>by
  simp at h1;subst h1;simp only[evs] at h2;cases h2;exact ⟨rfl,fun i v o h=>by simp at h⟩
 | o::os,xs,vs,h1,h2=>by
  simp only[qsj,qrQ] at h1
  cases hc:qj o with
  | none=>rw[hc] at h1;simp at h1
  | some x=>
   rw[hc] at h1
   cases hr:os.mapM qj with
   | none=>rw[hr] at h1;simp at h1
   | some xs'=>
    rw[hr] at h1;simp at h1;subst h1;simp only[evs] at h2;split at h2 <;> try cases h2
    rename_i v vs' hv hvs;obtain ⟨i1,i2⟩:=Ql ht hr hvs;refine ⟨by simp[i1],fun i v' o' h h'=>?_⟩
    cases i with
    | zero=>simp at h h';subst h;subst h';exact qp ht hc hv
    | succ i=>exact i2 i v' o' (by simpa using h) (by simpa using h')
theorem qbe{E:En}{P:Program}{e:Env}{a:Act}{t:TypeId}{l:List (Nat×Nat)}(ht:Z5 E e a.tmps)(hl:yd P t=some l):∀{ps:List (Nat×Operand)} {qs:List (Nat×Nat×Nat×Opd)} {vs:List (Nat×Nat×Nat×V)},
  (ps.mapM fun (i,x)=>match l[i]?,qj x with|some (o,n),some y=>some (i,o,n,y)|_,_=>none)=some qs→qB e qs=some vs→
  vs.length=ps.length∧(∀(j:Nat) (p:Nat×Nat×Nat×V) (u:Nat×Operand),vs[j]?=some p→ps[j]?=some u→p.1=u.1∧l[p.1]?=some (p.2.1,p.2.2.1)∧VR E p.2.2.2 (a.eval u.2))∧
  (∀p,p∈vs→∃q,q∈qs∧q.2.1=p.2.1∧q.2.2.1=p.2.2.1)
 | [],qs,vs,h1,h2=>by
  simp at h1;subst h1;simp only[qB] at h2;cases h2;exact ⟨rfl,fun j p u h=>by simp at h,fun p hp=>by simp at hp⟩
 | (i,x)::ps,qs,vs,h1,h2=>by
  simp only[qsj,qrQ] at h1
  cases hi:l[i]? with
  | none=>rw[hi] at h1;simp at h1
  | some on=>
   obtain ⟨o,n⟩:=on
   cases hc:qj x with
   | none=>rw[hi,hc] at h1;simp at h1
   | some y=>
    rw[hi,hc] at h1;simp only[qrh] at h1
    cases hr:(ps.mapM fun (i,x)=>match l[i]?,qj x with|some (o,n),some y=>some (i,o,n,y)|_,_=>none) with
    | none=>rw[hr] at h1;simp at h1
    | some qs'=>
     rw[hr] at h1;simp at h1;subst h1;simp only[qB] at h2;split at h2 <;> try cases h2
     rename_i v vs' hv hvs;obtain ⟨i1,i2,i3⟩:=qbe ht hl hr hvs;refine ⟨by simp[i1],fun j p u h h'=>?_,fun p hp=>?_⟩
     ·cases j with
      | zero=>simp at h h';subst h;subst h';exact ⟨rfl,hi,qp ht hc hv⟩
      | succ j=>exact i2 j p u (by simpa using h) (by simpa using h')
     ·rcases qrl.1 hp with rfl|hp
      ·exact ⟨_,qsG,rfl,rfl⟩
      ·obtain ⟨q,hq,h⟩:=i3 p hp;exact ⟨q,qrV _ hq,h⟩
theorem ko:∀{ps:List (Nat×Operand)} {k:Nat},qhD k ps=true→∀(i:Nat) (p:Nat×Operand),ps[i]?=some p→p.1=k+i
 | [],_,_,i,p,h=>by simp at h
 | (j,x)::ps,k,hr,i,p,h=>by
  simp only[qhD,qq5,beq_iff_eq] at hr
  cases i with
  | zero=>simp at h;subst h;exact hr.1
  | succ i=>have:=ko hr.2 i p (by simpa using h);omega
theorem qir{ps:List (Nat×Operand)}:(ps.mapM fun p=>qj p.2)=(ps.map fun p=>p.2).mapM qj:=by
 induction ps with
 | nil=>rfl
 | cons p ps ih=>simp[ih]
theorem qgO{P:Program}{t:TypeId}{kd:EqKd}{x y:V}(h:qpi P t=some kd)(hk:zT kd x y=true):kq P t x y=true:=by
 unfold qpi at h;split at h <;> cases h <;> rename_i hd
 all_goals (cases x <;> first|(simp[zT] at hk;done)|(cases y <;> first|(simp[zT] at hk;done)|simp[kq,hd]))
theorem qbG{E:En}{e:Env}{a:Act}{o:Option Operand}{x:Option Opd}{r:Option Int}(ht:Z5 E e a.tmps)(hc:(match o with|none=>some none|some y=>(qj y).map some)=some x)(h:JC e x=some r):
  ∃k:IntKind,o.map a.eval=r.map (Value.int k):=by
 cases o with
 | none=>simp at hc;subst hc;simp only[JC,Option.some.injEq] at h;subst h;exact ⟨.i64,rfl⟩
 | some y=>
  simp only at hc
  cases hy:qj y with
  | none=>rw[hy] at hc;cases hc
  | some z=>
   rw[hy] at hc;cases hc;simp only[JC] at h;split at h <;> cases h;rename_i k n hz;have:=qp ht hy hz;cases hu:a.eval y <;> rw[hu] at this <;> cases this;exact ⟨k,by simp[hu]⟩
theorem qh2{P:Program}{E:En}{e:Env}{S S':St}{a:Act}{w:World}{o:Oper}{k:K}{r:V}(hc:yU P o=some k)(he:evK e S k=some (r,S'))(ht:Z5 E e a.tmps)(hs:SR E S w):
  qcY P E S w (execOp a.eval o) r S':=by
 obtain ⟨dst,op,type,pos,after,guard⟩:=o;cases op <;> simp only[yU] at hc <;> try (cases hc;done)
 case move x=>
  cases hx:qj x with
  | none=>rw[hx] at hc;cases hc
  | some x'=>
   rw[hx] at hc;cases hc;simp only[evK] at he
   cases hv:x'.ev e with
   | none=>rw[hv] at he;cases he
   | some v=>rw[hv] at he;cases he;exact qcY.val hs (qp ht hx hv)
 case assign x=>
  cases hx:qj x with
  | none=>rw[hx] at hc;cases hc
  | some x'=>
   rw[hx] at hc;cases hc;simp only[evK] at he
   cases hv:x'.ev e with
   | none=>rw[hv] at he;cases he
   | some v=>rw[hv] at he;cases he;exact qcY.val hs (qp ht hx hv)
 case pick c x y=>
  split at hc <;> cases hc;rename_i c' x' y' h1 h2 h3;simp only[evK] at he;split at he <;> try cases he
  rename_i t hb;have hcb:=qp ht h1 hb;cases hu:a.eval c <;> rw[hu] at hcb <;> cases hcb
  cases t with
  | true=>
   simp only[if_true] at he
   cases hv:x'.ev e with
   | none=>rw[hv] at he;cases he
   | some v=>
    rw[hv] at he;cases he;exact ⟨.value (a.eval x),E,w,by simp[execOp,hu,asBool,Result.andThen],.inl ⟨_,rfl,qp ht h2 hv⟩,hs,Ext.refl _ _ _ _,qqY _⟩
  | false=>
   simp only[qrn,if_false] at he
   cases hv:y'.ev e with
   | none=>rw[hv] at he;cases he
   | some v=>
    rw[hv] at he;cases he;exact ⟨.value (a.eval y),E,w,by simp[execOp,hu,asBool,Result.andThen],.inl ⟨_,rfl,qp ht h3 hv⟩,hs,Ext.refl _ _ _ _,qqY _⟩
 case alloc t=>
  split at hc <;> try cases hc
  rename_i i hi;split at hc <;> cases hc;rename_i z hz;simp only[evK] at he;exact (qfi (o:=.tuple #[]) hi hz hs (ZI E z) he).next
 case box t x=>
  cases hx:qj x with
  | none=>rw[hx] at hc;cases hc
  | some x'=>
   rw[hx] at hc;cases hc;simp only[evK] at he
   cases hv:x'.ev e with
   | none=>rw[hv] at he;cases he
   | some v=>rw[hv] at he;exact (qfU (t:=t) hs (qp ht hx hv) he).next
 case build t ps=>
  split at hc <;> try cases hc
  rename_i i hi;split at hc <;> try cases hc
  rename_i z hz;split at hc <;> try cases hc
  rename_i cs l hcs hl;split at hc <;> cases hc;rename_i hall;unfold qaR at hl;split at hl <;> try cases hl
  rename_i sp hsp;simp only[evK] at he
  cases hev:qB e l with
  | none=>rw[hev] at he;cases he
  | some vs=>
   rw[hev] at he;simp only[qrh] at he
   cases hb:qF (.agg cs) (vs.map fun p=>p.2) with
   | none=>rw[hb] at he;cases he
   | some r'=>
    rw[hb] at he;cases he;obtain ⟨p1,p2,p3⟩:=qbe ht hsp hl hev;have hvz:VR E (.agg cs) z:=by rw[←hcs];exact ZI E z
    exact (qfv (us:=ps.map fun (i,x)=>(i,a.eval x)) hs hi hz hsp hvz rfl (by simp[p1]) (fun j p u hp hu=>by
     simp only[qso,qq3] at hu;obtain ⟨u',hu',rfl⟩:=hu
     exact p2 j p u' hp (by simpa using hu')) (fun p hp=>by
     obtain ⟨q,hq,h1,h2⟩:=p3 p hp;simp only[qri,qsK,Bool.and_eq_false_iff,beq_eq_false_iff_ne] at hall;have:=hall q hq;rintro ⟨h3,h4⟩;rcases this with h| h
     ·exact h (by omega)
     ·exact h (by rw[h2,h4];rfl)) hb).next
 case buildSlice t n ps=>
  split at hc <;> try cases hc
  rename_i sz l hsz hl;split at hc <;> cases hc;rename_i hn;obtain ⟨rfl,hrow⟩:=hn;simp only[evK] at he
  cases hev:evs e l with
  | none=>rw[hev] at he;cases he
  | some vs=>
   rw[hev] at he;simp only[qrh] at he;split at he <;> cases he;rename_i hf;rw[qir] at hl;obtain ⟨p1,p2⟩:=Ql ht hl hev;have hlen:vs.length=ps.size:=by rw[p1];simp
   have:=qei (P:=P) (us:=ps.map fun (i,x)=>(i,a.eval x)) hs (qgH hsz) (xs:=vs) (by simp[hlen]) (fun i x u hx hu=>by
    simp only[qso,qq3] at hu;obtain ⟨u',hu',rfl⟩:=hu;refine ⟨?_,p2 i x u'.2 hx (by simp;exact ⟨_,by simpa using hu'⟩)⟩;have:=ko hrow i u' (by simpa using hu');simpa using this) hf.1 hf.2
   rw[hlen] at this;exact this.next
 case load t x=>
  split at hc <;> cases hc;rename_i k x' hk hx;simp only[evK] at he
  cases hv:x'.ev e with
  | none=>rw[hv] at he;cases he
  | some v=>
   rw[hv] at he;simp only[qrh] at he
   cases hl:ldS S v k with
   | none=>rw[hl] at he;cases he
   | some r'=>
    rw[hl] at he;cases he;obtain ⟨d,hd,hr⟩:=qdk (P:=P) hs (qp ht hx hv) hk hl;exact (Sim.pure hs hd hr).next
 case store t x y=>
  split at hc <;> cases hc;rename_i i x' y' hi hx hy;simp only[evK] at he;split at he <;> try cases he
  rename_i p v hp hv
  cases hst:stS S p i.size v with
  | none=>rw[hst] at he;cases he
  | some S2=>
   rw[hst] at he;cases he;obtain ⟨w',h1,h2,h3,h4⟩:=qgx (P:=P) hs (qp ht hx hp) (qp ht hy hv) hi hst;exact ⟨.skip,E,w',by simp[execOp,h1,Result.andThen],.inr ⟨rfl,rfl⟩,h2,h3,h4⟩
 case nilCheck x=>
  cases hx:qj x with
  | none=>rw[hx] at hc;cases hc
  | some x'=>
   rw[hx] at hc;cases hc;simp only[evK] at he
   cases hv:x'.ev e with
   | none=>rw[hv] at he;cases he
   | some v=>
    rw[hv] at he;simp only[qrh] at he;split at he <;> cases he;rename_i htg;have hvr:=qp ht hx hv;refine ⟨.value (a.eval x),E,w,?_,.inl ⟨_,rfl,hvr⟩,hs,Ext.refl _ _ _ _,qqY _⟩;generalize hu:a.eval x=u at hvr;cases hvr <;> simp[zY] at htg <;> simp[execOp,hu];rename_i f fs cs us ws h1 h2 g1 g2;cases f <;> simp[zY] at htg ⊢
 case binOp bop t x y yt=>
  split at hc <;> try cases hc
  rename_i x' y' hx hy;split at hc
  ·cases hc;simp only[evK] at he;split at he <;> try cases he
   rename_i u v hu hv
   cases hb:qjy bop u v with
   | none=>rw[hb] at he;cases he
   | some r'=>
    rw[hb] at he;cases he;exact (qmj (t:=t) (ox:=x) (oy:=y) hs (qp ht hx hu) (qp ht hy hv) hb).next
  ·split at hc <;> try cases hc
   rename_i kd hkd
   have key:∀neg,(bop=if neg=true then BinOp.neq else BinOp.eql)→evK e S (.eq kd neg x' y')=some (r,S')→qcY P E S w (execOp a.eval ⟨dst,.binOp bop t x y yt,type,pos,after,guard⟩) r S':=by
    intro neg hop he;simp only[evK] at he;split at he <;> try cases he
    rename_i u v hu hv;split at he <;> try cases he
    rename_i hok
    cases hb:eqV u v with
    | none=>rw[hb] at he;cases he
    | some b=>
     rw[hb] at he;cases he;have:=qoq (op:=bop) (t:=t) (ox:=x) (oy:=y) hs (qp ht hx hu) (qp ht hy hv) hb (qgO hkd hok) (by rw[hop];cases neg <;> simp);cases neg
     ·subst hop;exact this.next
     ·subst hop;exact this.next
   split at hc <;> cases hc
   ·exact key false rfl he
   ·exact key true rfl he
 case unOp uop t x=>
  cases hx:qj x with
  | none=>rw[hx] at hc;cases hc
  | some x'=>
   rw[hx] at hc;cases hc;simp only[evK] at he
   cases hv:x'.ev e with
   | none=>rw[hv] at he;cases he
   | some v=>
    rw[hv] at he;simp only[qrh] at he
    cases hu:unV uop v with
    | none=>rw[hu] at he;cases he
    | some r'=>rw[hu] at he;cases he;exact (qoI hs (qp ht hx hv) hu).next
 case convert st d x=>
  split at hc <;> cases hc;rename_i k x' ht' hd hx;simp only[evK] at he;split at he <;> cases he;rename_i k' n hv;have hvr:=qp ht hx hv;generalize hu:a.eval x=u at hvr;cases hvr;refine (Sim.pure (s:=convert st d (.int k' n)) (d:=.int k (k.wrap n)) hs ?_ (.int _ _)).next.cast ?_
  ·simp[convert,qc ht',qc hd,Result.andThen,Conv.intToInt]
  ·simp only[execOp,hu]
 case fieldAddr t x f=>
  split at hc <;> cases hc;rename_i off x' ho hx;simp only[evK] at he
  cases hv:x'.ev e with
  | none=>rw[hv] at he;cases he
  | some v=>
   rw[hv] at he;simp only[qrh] at he
   cases hf:faV v off with
   | none=>rw[hf] at he;cases he
   | some r'=>rw[hf] at he;cases he;exact (qnD hs (qp ht hx hv) ho hf).next
 case field t x f=>
  split at hc <;> cases hc;rename_i off k x' ho hx;simp only[evK] at he
  cases hv:x'.ev e with
  | none=>rw[hv] at he;cases he
  | some v=>
   rw[hv] at he;simp only[qrh] at he;split at he <;> try cases he
   rename_i hag
   cases hf:v.part off k with
   | none=>rw[hf] at he;cases he
   | some r'=>rw[hf] at he;cases he;exact (qeX hs (qp ht hx hv) hag ho hf).next
 case indexAddr t x i=>
  split at hc <;> cases hc;rename_i sz x' i' hsz hx hi;simp only[evK] at he;split at he <;> try cases he
  rename_i p kk ix hp hix;have hvr:=qp ht hi hix;generalize hu:a.eval i=u at hvr;cases hvr
  cases hf:iaS S sz p ix with
  | none=>rw[hf] at he;cases he
  | some r'=>
   rw[hf] at he;cases he;have:=qn3 (P:=P) (k:=kk) hs (qp ht hx hp) hsz hf;rw[←hu] at this;exact this.next
 case index t x i=>
  split at hc <;> cases hc;rename_i x' i' hd hx hi;simp only[evK] at he;split at he <;> try cases he
  rename_i s kk ix hp hix;have h1:=qp ht hi hix;have h2:=qp ht hx hp;generalize hu:a.eval i=u at h1;generalize hv:a.eval x=v at h2;cases h1;cases h2
  cases hf:qhw s ix with
  | none=>rw[hf] at he;cases he
  | some r'=>
   rw[hf] at he;cases he;have:=qj0 (P:=P) (k:=kk) hs hd hf;rw[←hu,←hv] at this;exact this.next
 case slice t x lo hi mx=>
  cases mx with
  | some m=>cases hc
  | none=>
   simp only at hc;split at hc <;> try cases hc
   rename_i x' lo' hi' hx hlo hhi
   have key:∀(s:Bool) (sz:Nat),(s=true→P.underlying t=some .string)→(s=false→Q1 P t=some sz)→evK e S (.slc s sz x' lo' hi')=some (r,S')→qcY P E S w (execOp a.eval ⟨dst,.slice t x lo hi none,type,pos,after,guard⟩) r S':=by
    intro s sz h1 h2 he;simp only[evK] at he;split at he <;> try cases he
    rename_i d l h hd hl hh;obtain ⟨k1,e1⟩:=qbG ht hlo hl;obtain ⟨k2,e2⟩:=qbG ht hhi hh;have hdr:=qp ht hx hd;split at he <;> try cases he
    ·rename_i b;generalize hu:a.eval x=u at hdr;cases hdr
     cases hf:zU S sz (.str b) l h with
     | none=>rw[hf] at he;cases he
     | some r'=>
      rw[hf] at he;cases he;exact (qbi (P:=P) (k:=k1) (k':=k2) hs (h1 rfl) hf).next.cast (by simp[execOp,hu,e1,e2])
    ·rename_i xx xs
     cases hf:zU S sz (.sl xx xs) l h with
     | none=>rw[hf] at he;cases he
     | some r'=>
      rw[hf] at he;cases he;exact (qa4 (P:=P) (k:=k1) (k':=k2) hs (h2 rfl) hdr hf (fun s=>by simp)).next.cast (by simp[execOp,e1,e2])
    ·rename_i al ao an ast
     cases hf:zU S sz (.arr al ao an ast) l h with
     | none=>rw[hf] at he;cases he
     | some r'=>
      rw[hf] at he;cases he;exact (qa4 (P:=P) (k:=k1) (k':=k2) hs (h2 rfl) hdr hf (fun s=>by simp)).next.cast (by simp[execOp,e1,e2])
   split at hc
   ·rename_i hd;cases hc;exact key true 0 (fun _=>hd) (fun h=>by cases h) he
   ·split at hc <;> cases hc;rename_i sz hsz;exact key false sz (fun h=>by cases h) (fun _=>hsz) he
 case extract x i=>
  cases hx:qj x with
  | none=>rw[hx] at hc;cases hc
  | some x'=>
   rw[hx] at hc;cases hc;simp only[evK] at he;split at he <;> try cases he
   rename_i vs hv
   cases hi:vs[i]? with
   | none=>rw[hi] at he;cases he
   | some r'=>rw[hi] at he;cases he;exact (qbS hs (qp ht hx hv) hi).next
 case makeFunc fn fs cs=>
  cases fn <;> try cases hc
  rename_i kf;simp only at hc;split at hc <;> cases hc;rename_i fs' cs' hfs hcs;simp only[evK] at he;split at he <;> cases he;rename_i us vs hus hvs;obtain ⟨a1,a2⟩:=Ql ht hfs hus;obtain ⟨b1,b2⟩:=Ql ht hcs hvs;refine (Sim.pure (d:=.func (.func kf) (fs.map a.eval) (cs.map a.eval)) hs (by simp[Instr.makeFunc]) (.fn (by simp[a1]) (by simp[b1]) (fun i v u hv hu=>?_) (fun i v u hv hu=>?_))).next
  ·simp only[qso,qq3] at hu;obtain ⟨o,ho,rfl⟩:=hu;exact a2 i v o hv (by simpa using ho)
  ·simp only[qso,qq3] at hu;obtain ⟨o,ho,rfl⟩:=hu;exact b2 i v o hv (by simpa using ho)
 case call c=>
  obtain ⟨callee,args,argTypes⟩:=c;simp only at hc;split at hc <;> try cases hc
  ·rename_i f args' hargs
   cases hf:qj f with
   | none=>rw[hf] at hc;cases hc
   | some f'=>rw[hf] at hc;cases hc;cases he
  ·rename_i x' hargs;split at hc <;> try cases hc
   rename_i t ht0
   have hx:∃x,args=#[x]∧qj x=some x':=by
    have hl:args.toList.mapM qj=some [x']:=hargs
    cases hargs':args.toList with
    | nil=>rw[hargs'] at hl;simp at hl
    | cons x xs=>
     rw[hargs'] at hl;simp only[qsj,qrQ] at hl
     cases hc1:qj x with
     | none=>rw[hc1] at hl;simp at hl
     | some y=>
      rw[hc1] at hl
      cases hr:xs.mapM qj with
      | none=>rw[hr] at hl;simp at hl
      | some ys=>
       rw[hr] at hl;simp at hl;obtain ⟨rfl,rfl⟩:=hl
       cases xs with
       | nil=>exact ⟨x,by apply qsR.1;rw[hargs'],hc1⟩
       | cons z zs=>
        simp only[qsj,qrQ] at hr
        cases h1:qj z with
        | none=>rw[h1] at hr;simp at hr
        | some y1=>
         rw[h1] at hr
         cases h2:zs.mapM qj with
         | none=>rw[h2] at hr;simp at hr
         | some y2=>rw[h2] at hr;simp at hr
   obtain ⟨x,rfl,hx⟩:=hx
   have run:∀u:Value,(Builtin.len_ argTypes type #[a.eval x]).run P w=.ok u w→(execOp a.eval ⟨dst,.call ⟨.builtin .len,#[x],argTypes⟩,type,pos,after,guard⟩).run P w=.ok (.value u) w:=fun u hu=>by
    simp[execOp,resolve,invoke,builtin,hu,Result.andThen]
   split at hc <;> cases hc
   ·rename_i hd;simp only[evK] at he
    cases hv:x'.ev e with
    | none=>rw[hv] at he;cases he
    | some v=>
     rw[hv] at he;simp only[qrh] at he;split at he <;> first|contradiction|(cases he;done)|skip
     cases he;rename_i b hb;have hvr:=qp ht hx hv;generalize hu:a.eval x=u at hvr;cases hvr;exact ⟨.value (.int .i64 b.size),E,w,run _ (by simp[Builtin.len_,ht0,hu,qc hd,Result.andThen,goInt]),.inl ⟨_,rfl,.int _ _⟩,hs,Ext.refl _ _ _ _,qqY _⟩
   ·rename_i el hd;simp only[evK] at he
    cases hv:x'.ev e with
    | none=>rw[hv] at he;cases he
    | some v=>
     rw[hv] at he;simp only[qrh] at he;have hvr:=qp ht hx hv;split at he <;> first|contradiction|(cases he;done)|skip
     ·cases he;rename_i b xs hb;generalize hu:a.eval x=u at hvr;cases hvr <;> exact ⟨.value (.int .i64 _),E,w,run _ (by simp[Builtin.len_,ht0,hu,qc hd,Result.andThen,goInt]),.inl ⟨_,rfl,.int _ _⟩,hs,Ext.refl _ _ _ _,qqY _⟩
     ·cases he;rename_i l off n st hb;generalize hu:a.eval x=u at hvr;cases hvr;exact ⟨.value (.int .i64 _),E,w,run _ (by simp[Builtin.len_,ht0,hu,qc hd,Result.andThen,goInt]),.inl ⟨_,rfl,.int _ _⟩,hs,Ext.refl _ _ _ _,qqY _⟩
  ·rename_i d' x' hargs
   cases hp:qgn P argTypes with
   | none=>rw[hp] at hc;cases hc
   | some pr=>
    obtain ⟨sz,bytes⟩:=pr;rw[hp] at hc;cases hc;simp only[evK] at he;split at he <;> try cases he
    rename_i u v hu hv;have hl:args.toList.mapM qj=some [d',x']:=hargs;have hev:evs e [d',x']=some [u,v]:=by simp[evs,hu,hv]
    obtain ⟨l1,l2⟩:=Ql ht hl hev;have hsz:args.size=2:=by simpa using l1.symm
    obtain ⟨o1,o2,rfl⟩:∃o1 o2,args=#[o1,o2]:=by
     obtain ⟨l⟩:=args
     match l,hsz with
     | [o1,o2],_=>exact ⟨o1,o2,rfl⟩
    have r1:=l2 0 u o1 rfl rfl;have r2:=l2 1 v o2 rfl rfl;obtain ⟨d,E',w',h1,h2,h3⟩:=qef (P:=P) (T:=type) hs (qep hp) r1 r2 he;exact ⟨.value d,E',w',by simp[execOp,resolve,invoke,builtin,h1,Result.andThen],.inl ⟨d,rfl,h2⟩,h3⟩
theorem qk4{E:En}{S:St}{P:Program}{w:World}{op:BinOp}{t:TypeId}{ox oy:Operand}{cs ds:List V}{u v:Value}{b neg:Bool}{fs:Array Field}{i:TypeInfo}{os:List (Nat×CK)}(hs:SR E S w)(hx:VR E (.agg cs) u)(hy:VR E (.agg ds) v)
  (hu:P.underlying t=some (.struct fs)) (hg:P.eqGuardType P.depth t=false) (hc:ZU P 10000 t=some os) (hi:P.info? t=some i) (l1:cs.length=i.size) (l2:ds.length=i.size) (h:zn cs ds os=some b) (ho:op=if neg=true then .neq else .eql):
  Sim P E S w (do eqGuard op t ox oy u v;binOp op t u v) (.bool (if neg then !b else b)) S:=by
 have h1:(Op.equal t u v).run P w=.ok b w:=qnH 10000 t os _ _ u v b hc hx hy (by simp only[Jg,hu];exact ⟨rfl,i,hi,l1⟩) (by simp only[Jg,hu];exact ⟨rfl,i,hi,l2⟩) h
 cases hx with
 | agg _ _=>
  rename_i us _ _
  cases hy with
  | agg _ _=>
   rename_i vs _ _
   have hgd:(eqGuard op t ox oy (.agg us) (.agg vs)).run P w=.ok () w:=by
    unfold eqGuard;subst ho;cases neg <;> simp[run_program,hg,Result.andThen]
   refine Sim.pure hs (d:=.bool (if neg then !b else b)) ?_ (.bool _);simp only[Sem.run_bind,hgd,Result.andThen];subst ho;cases neg
   ·show (do pure (.bool (←Op.equal t (.agg us) (.agg vs))):Sem Value).run P w=_;simp[h1,Result.andThen]
   ·show (do pure (.bool (!(←Op.equal t (.agg us) (.agg vs)))):Sem Value).run P w=_;simp[h1,Result.andThen]
theorem qgt{P:Program}{w:World}{t el:TypeId}{a:Option Addr}{l c:Nat}(n:Nat)(hu:P.underlying t=some (.slice el)):(Op.equalIn (n+1) t (.slice a l c) (.slice none 0 0)).run P w=.ok a.isNone w:=by
 simp only[Op.equalIn,Sem.run_bind,qc hu,Result.andThen];cases a <;> rfl
theorem qmU{P:Program}{w:World}{op:BinOp}{t el:TypeId}{ox oy:Operand}{a:Option Addr}{l c:Nat}{neg:Bool}(hu:P.underlying t=some (.slice el))(ho:op=if neg=true then .neq else .eql):
  (do eqGuard op t ox oy (.slice a l c) (.slice none 0 0);binOp op t (.slice a l c) (.slice none 0 0):Sem Value).run P w=.ok (.bool (if neg then !a.isNone else a.isNone)) w:=by
 have hgd:(eqGuard op t ox oy (.slice a l c) (.slice none 0 0)).run P w=.ok () w:=by
  unfold eqGuard;subst ho;cases neg <;> simp
 have h1:(Op.equal t (.slice a l c) (.slice none 0 0)).run P w=.ok a.isNone w:=by
  exact qgt 9999 hu
 simp only[Sem.run_bind,hgd,Result.andThen];subst ho;cases neg
 ·show (do pure (.bool (←Op.equal t (.slice a l c) (.slice none 0 0))):Sem Value).run P w=_;simp[h1,Result.andThen]
 ·show (do pure (.bool (!(←Op.equal t (.slice a l c) (.slice none 0 0)))):Sem Value).run P w=_;simp[h1,Result.andThen]
theorem qao{P:Program}{w:World}{a:Act}{op:BinOp}{t el yt:TypeId}{x y:Operand}{ad:Option Addr}{l c:Nat}{neg:Bool}{dst:Option Tmp}{type:TypeId}{pos:String}{after:Array Edge}{guard:Option (Nat×Bool)}(hu:P.underlying t=some (.slice el))(ho:op=if neg=true then .neq else .eql)
  (hx:a.eval x=.slice ad l c) (hy:a.eval y=.slice none 0 0):(execOp a.eval ⟨dst,.binOp op t x y yt,type,pos,after,guard⟩).run P w=.ok (.value (.bool (if neg then !ad.isNone else ad.isNone))) w:=by
 have:=qmU (P:=P) (w:=w) (ox:=x) (oy:=y) (a:=ad) (l:=l) (c:=c) hu ho;simp only[Sem.run_bind] at this;simp only[execOp,hx,hy,Sem.run_bind];rw[this];simp only[Result.andThen,Sem.run_pure]
theorem jT{a:Act}{y:Operand}(h:Jk y=true):a.eval y=.slice none 0 0:=by
 unfold Jk at h;split at h
 ·rfl
 ·cases h
theorem qmG{args:Array Operand}{x' y':Opd}(h:args.toList.mapM qj=some [x',y']):∃x y,args=#[x,y]∧qj x=some x'∧qj y=some y':=by
 cases hl:args.toList with
 | nil=>rw[hl] at h;simp at h
 | cons x xs=>
  rw[hl] at h;simp only[qsj,qrQ] at h
  cases h1:qj x with
  | none=>rw[h1] at h;simp at h
  | some x1=>
   rw[h1] at h
   cases xs with
   | nil=>simp at h
   | cons y ys=>
    simp only[qsj,qrQ] at h
    cases h2:qj y with
    | none=>rw[h2] at h;simp at h
    | some y1=>
     rw[h2] at h
     cases ys with
     | nil=>
      simp at h;obtain ⟨rfl,rfl⟩:=h;exact ⟨x,y,by apply qsR.1;rw[hl],h1,h2⟩
     | cons z zs=>
      simp only[qsj,qrQ] at h
      cases h3:qj z with
      | none=>rw[h3] at h;simp at h
      | some z1=>
       rw[h3] at h
       cases h4:zs.mapM qj with
       | none=>rw[h4] at h;simp at h
       | some q=>rw[h4] at h;simp at h
theorem qlw{P:Program}{E:En}{e:Env}{S S':St}{a:Act}{w:World}{o:Oper}{k:X}{r:V}(hc:Jy P o=some k)(he:evX e S k=some (r,S'))(ht:Z5 E e a.tmps)(hs:SR E S w):
  qcY P E S w (execOp a.eval o) r S':=by
 obtain ⟨dst,op,type,pos,after,guard⟩:=o;cases op <;> simp only[Jy] at hc <;> try (cases hc;done)
 case binOp bop t x y yt=>
  split at hc
  ·cases hc
  rename_i hop
  have hop':∀neg,(bop==BinOp.neq)=neg→bop=if neg=true then .neq else .eql:=by
   intro neg hn;subst hn;cases bop <;> first|rfl|(simp at hop;done)|(exact absurd hop (by decide))
  split at hc <;> try cases hc
  ·rename_i fs hu;split at hc
   ·cases hc
   rename_i hg;split at hc <;> try cases hc
   rename_i os i x' y' hos hi hx hy;simp only[evX] at he;split at he <;> try cases he
   rename_i cs ds hv1 hv2;split at he <;> try cases he
   rename_i hlen
   cases hb:zn cs ds os with
   | none=>rw[hb] at he;cases he
   | some b=>
    rw[hb] at he;cases he;exact (qk4 (ox:=x) (oy:=y) hs (qp ht hx hv1) (qp ht hy hv2) hu (by simpa using hg) hos hi hlen.1 hlen.2 hb (hop' _ rfl)).next
  ·rename_i el hu;split at hc
   ·rename_i hn
    cases hx:qj x with
    | none=>rw[hx] at hc;cases hc
    | some x'=>
     rw[hx] at hc;cases hc;have hy0:=jT (a:=a) hn;simp only[evX] at he;split at he
     ·rename_i hv;cases he;have hvr:=qp ht hx hv;generalize hua:a.eval x=u at hvr
      cases hvr with
      | sl hc' hx' hs' hI hv'=>
       refine ⟨.value (.bool (bop==.neq)),E,w,?_,.inl ⟨_,rfl,.bool _⟩,hs,Ext.refl _ _ _ _,qqY _⟩;rw[qao hu (hop' _ rfl) hua hy0];cases (bop==BinOp.neq) <;> rfl
     ·rename_i hv;cases he;have hvr:=qp ht hx hv;generalize hua:a.eval x=u at hvr
      cases hvr with
      | arr hr hN hc'=>
       refine ⟨.value (.bool (bop==.neq)),E,w,?_,.inl ⟨_,rfl,.bool _⟩,hs,Ext.refl _ _ _ _,qqY _⟩;rw[qao hu (hop' _ rfl) hua hy0];cases (bop==BinOp.neq) <;> rfl
     ·cases he
   ·cases hc
 case lookup t x k ok=>
  split at hc <;> try cases hc
  rename_i kd kt et hm;split at hc <;> try cases hc
  rename_i i x' k' hi hx hk
  cases hz:i.zero with
  | none=>rw[hz] at hc;cases hc
  | some z=>
   rw[hz] at hc;cases hc;simp only[evX] at he;split at he <;> try cases he
   rename_i m key hv1 hv2
   cases hl:qbT S kd (vOf z) ok m key with
   | none=>rw[hl] at he;cases he
   | some r'=>
    rw[hl] at he;cases he;exact (qdW hs hm hi hz (ZI E z) (qp ht hx hv1) (qp ht hk hv2) hl).next
 case mapUpdate t m k x=>
  split at hc <;> try cases hc
  rename_i kd kt et m' k' x' hm h1 h2 h3;simp only[evX] at he;split at he <;> try cases he
  rename_i mv kv xv e1 e2 e3
  cases hl:qaV S kd mv kv xv with
  | none=>rw[hl] at he;cases he
  | some S2=>
   rw[hl] at he;cases he;obtain ⟨E',w',g1,g2,g3,g4⟩:=Yr (P:=P) hs hm (qp ht h1 e1) (qp ht h2 e2) (qp ht h3 e3) hl;exact ⟨.skip,E',w',by simp[execOp,g1,Result.andThen],.inr ⟨rfl,rfl⟩,g2,g3,g4⟩
 case insert t m k x=>
  split at hc <;> try cases hc
  rename_i kd kt et m' k' x' hm h1 h2 h3;simp only[evX] at he;split at he <;> try cases he
  rename_i mv kv xv e1 e2 e3
  cases hl:qaV S kd mv kv xv with
  | none=>rw[hl] at he;cases he
  | some S2=>
   rw[hl] at he;cases he;obtain ⟨E',w',g1,g2,g3,g4⟩:=Yr (P:=P) hs hm (qp ht h1 e1) (qp ht h2 e2) (qp ht h3 e3) hl;exact ⟨.skip,E',w',by simp[execOp,g1,Result.andThen],.inr ⟨rfl,rfl⟩,g2,g3,g4⟩
 case makeMap t rv=>
  cases rv with
  | some h=>cases hc
  | none=>
   simp only[Option.some.injEq] at hc;subst hc;simp only[evX,Option.some.injEq,Prod.mk.injEq] at he;obtain ⟨rfl,rfl⟩:=he;exact (qb0 (t:=t) hs).next
 case call c=>
  obtain ⟨callee,args,argTypes⟩:=c;simp only at hc;split at hc <;> try cases hc
  ·rename_i x' y' hargs;obtain ⟨x,y,rfl,hx,hy⟩:=qmG hargs;simp only[evX] at he;split at he <;> try cases he
   rename_i u v hu hv
   cases hm:mmV true u v with
   | none=>rw[hm] at he;cases he
   | some r'=>
    rw[hm] at he;cases he;have h1:=qp ht hx hu;have h2:=qp ht hy hv;generalize hxa:a.eval x=xa at h1;generalize hya:a.eval y=ya at h2;cases h1 <;> cases h2 <;> simp only[mmV,reduceCtorEq,Option.some.injEq] at hm;subst hm;exact ⟨.value (.int _ _),E,w,by simp[execOp,resolve,invoke,builtin,Builtin.max_,Builtin.max2,hxa,hya,Result.andThen],.inl ⟨_,rfl,.int _ _⟩,hs,Ext.refl _ _ _ _,qqY _⟩
  ·rename_i x' y' hargs;obtain ⟨x,y,rfl,hx,hy⟩:=qmG hargs;simp only[evX] at he;split at he <;> try cases he
   rename_i u v hu hv
   cases hm:mmV false u v with
   | none=>rw[hm] at he;cases he
   | some r'=>
    rw[hm] at he;cases he;have h1:=qp ht hx hu;have h2:=qp ht hy hv;generalize hxa:a.eval x=xa at h1;generalize hya:a.eval y=ya at h2;cases h1 <;> cases h2 <;> simp only[mmV,reduceCtorEq,Option.some.injEq] at hm;subst hm;exact ⟨.value (.int _ _),E,w,by simp[execOp,resolve,invoke,builtin,Builtin.min_,Builtin.min2,hxa,hya,Result.andThen],.inl ⟨_,rfl,.int _ _⟩,hs,Ext.refl _ _ _ _,qqY _⟩
  ·rename_i x' y' hargs;obtain ⟨x,y,rfl,hx,hy⟩:=qmG hargs;split at hc <;> try cases hc
   rename_i t hts
   cases hm:Jc P t with
   | none=>rw[hm] at hc;cases hc
   | some q=>
    rw[hm] at hc;simp only[qrh,Option.some.injEq] at hc;subst hc;obtain ⟨kd,kt,et⟩:=q;simp only[evX] at he;split at he <;> try cases he
    rename_i m key hv1 hv2
    cases hl:qmp S kd m key with
    | none=>rw[hl] at he;cases he
    | some S2=>
     rw[hl] at he;cases he;obtain ⟨d,E',w',g1,g2,g3⟩:=qeB (P:=P) (T:=type) hs hts hm (qp ht hx hv1) (qp ht hy hv2) hl;exact ⟨.value d,E',w',by simp[execOp,resolve,invoke,builtin,g1,Result.andThen],.inl ⟨d,rfl,g2⟩,g3⟩
 case range t x=>
  split at hc <;> try cases hc
  rename_i q x' hm hx;simp only[evX] at he
  cases hv:x'.ev e with
  | none=>rw[hv] at he;cases he
  | some v=>
   rw[hv] at he;exact (qg3 hs hm (qp ht hx hv) he).next
 case next x b=>
  cases b
  ·simp only at hc
   cases hx:qj x with
   | none=>rw[hx] at hc;cases hc
   | some x'=>rw[hx] at hc;cases hc;simp only[evX] at he;cases he
  ·cases hc
 case entry x=>
  cases hx:qj x with
  | none=>rw[hx] at hc;cases hc
  | some x'=>
   rw[hx] at hc;cases hc;simp only[evX] at he
   cases hv:x'.ev e with
   | none=>rw[hv] at he;cases he
   | some v=>
    rw[hv] at he;simp only[qrh] at he
    cases hr:qjN S v with
    | none=>rw[hr] at he;cases he
    | some r'=>
     rw[hr] at he;cases he;exact (qgf hs (qp ht hx hv) hr).next
 case build t ps=>
  split at hc <;> try cases hc
  rename_i i l hi hl;split at hc <;> try cases hc
  rename_i z hz;split at hc <;> try cases hc
  rename_i j x hps;split at hc <;> try cases hc
  rename_i n x' hj hx;split at hc <;> cases hc;rename_i hzn;simp only[evX] at he
  cases hv:x'.ev e with
  | none=>rw[hv] at he;cases he
  | some v=>
   rw[hv] at he;simp only[qrh] at he;split at he <;> cases he;rename_i hvn;have hps':ps=#[(j,x)]:=by apply qsR.1;rw[hps]
   subst hps';exact (qif hs hi hz hzn hl hj (qp ht hx hv) hvn.1 hvn.2).next.cast (by simp[execOp])
 case index t x i=>
  split at hc <;> try cases hc
  rename_i n el hu;split at hc <;> try cases hc
  rename_i ei k x' i' hei hk hx hi;simp only[evX] at he;split at he <;> try cases he
  rename_i v kd ix hv1 hv2;split at he <;> try cases he
  rename_i hcc
  cases hr:v.part (ix.toNat * ei.size) k with
  | none=>rw[hr] at he;cases he
  | some r'=>
   rw[hr] at he;cases he;have h2:=qp ht hi hv2;generalize hia:a.eval i=ia at h2;cases h2;refine (qmv (kd:=kd) hs (qp ht hx hv1) hcc.1 hu hei hk hcc.2 hr).next.cast ?_;simp only[execOp,hia]
 case makeSlice t l c=>
  split at hc <;> try cases hc
  rename_i el hu;split at hc <;> try cases hc
  rename_i i l' c' hi hl hcc
  cases hz:i.zero with
  | none=>rw[hz] at hc;cases hc
  | some z=>
   rw[hz] at hc;cases hc;simp only[evX] at he;split at he <;> try cases he
   rename_i kl l0 kc c0 e1 e2;have h1:=qp ht hl e1;have h2:=qp ht hcc e2;refine (qaq (kl:=kl) (kc:=kc) hs hu hi hz (ZI E z) he).next.cast ?_;generalize hla:a.eval l=la at h1;generalize hca:a.eval c=ca at h2;cases h1;cases h2;simp only[execOp,hla,hca]
 case indexAddr t x i=>
  split at hc <;> try cases hc
  rename_i n sz x' i' hty hx hi;simp only[evX] at he;split at he <;> try cases he
  rename_i p k ix e1 e2
  cases hr:qo3 n sz p ix with
  | none=>rw[hr] at he;cases he
  | some r'=>
   rw[hr] at he;cases he;have h2:=qp ht hi e2;refine (qkT (k:=k) hs (qp ht hx e1) hty hr).next.cast ?_;generalize hia:a.eval i=ia at h2;cases h2;simp only[execOp,hia]
 case convert src d x=>
  split at hc <;> try cases hc
  ·rename_i el x' h1 h2 hx;split at hc <;> cases hc;rename_i hb;simp only[evX] at he
   cases hv:x'.ev e with
   | none=>rw[hv] at he;cases he
   | some p=>
    rw[hv] at he;simp only[qrh] at he
    cases hr:qnJ S p with
    | none=>rw[hr] at he;cases he
    | some r'=>
     rw[hr] at he;cases he;exact (qld hs (qp ht hx hv) h1 (qbb hb) h2 hr).next
  ·rename_i el x' h1 h2 hx;split at hc <;> cases hc;rename_i hb;simp only[evX] at he;split at he <;> try cases he
   rename_i s hv;have hvr:=qp ht hx hv;refine (qkv hs h1 h2 (qbb hb)).next.cast ?_;generalize hxa:a.eval x=xa at hvr;cases hvr;simp only[execOp,hxa]
theorem qj7{P:Program}{E:En}{e:Env}{S S':St}{a:Act}{w:World}{o:Oper}{k:K}{r:V}(hc:yi P o=some k)(he:evK e S k=some (r,S'))(ht:Z5 E e a.tmps)(hs:SR E S w):
  qcY P E S w (execOp a.eval o) r S':=by
 unfold yi at hc;split at hc
 ·rename_i k' hk;cases hc;exact qh2 hk he ht hs
 ·cases hx:Jy P o with
  | none=>rw[hx] at hc;cases hc
  | some x=>rw[hx] at hc;cases hc;exact qlw hx he ht hs
theorem qa1(P:Program)(o:Oper)(x:X):yU P o≠some (.ex x):=by
 intro h;obtain ⟨dst,op,type,pos,after,guard⟩:=o;cases op <;> simp only[yU] at h
 all_goals (first|(cases h;done)|(simp at h;done)|(revert h;repeat' split))
 all_goals (first|contradiction|(intro h;cases h;done)|(intro h;simp at h;done)|skip)
def ndS(e:Env)(S:St):K→List (V×St)
 | .ex (.nxt x)=>match x.ev e with
  | some p=>qeQ S p
  | none=>[]
 | _=>[]
theorem ql7{P:Program}{E:En}{e:Env}{S:St}{a:Act}{w:World}{o:Oper}{k:K}(hc:yi P o=some k)(hn:ndS e S k≠[])(ht:Z5 E e a.tmps)(hs:SR E S w):∃q,q∈ndS e S k∧qcY P E S w (execOp a.eval o) q.1 q.2:=by
 have hk:∃x,k=.ex (.nxt x):=by
  cases k <;> try exact absurd rfl hn
  rename_i x;cases x <;> first|exact ⟨_,rfl⟩|exact absurd rfl hn
 obtain ⟨x,rfl⟩:=hk
 have hx:Jy P o=some (.nxt x):=by
  unfold yi at hc;split at hc
  ·rename_i k' hk;cases hc;exact absurd hk (qa1 P o _)
  ·cases hx:Jy P o with
   | none=>rw[hx] at hc;cases hc
   | some x'=>rw[hx] at hc;cases hc;rfl
 obtain ⟨dst,op,type,pos,after,guard⟩:=o
 have hop:∃y,op=.next y false∧qj y=some x:=by
  cases op <;> simp only[Jy] at hx <;> try (cases hx;done)
  case next y b=>
   cases b
   ·simp only at hx
    cases hy:qj y with
    | none=>rw[hy] at hx;cases hx
    | some y'=>rw[hy] at hx;cases hx;exact ⟨y,rfl,hy⟩
   ·cases hx
  all_goals (revert hx;repeat' split)
  all_goals first|contradiction|(intro hx;first|(cases hx;done)|(simp only[qq3,qrK,reduceCtorEq,and_false,exists_false,Option.some.injEq] at hx;done)|(obtain ⟨_,_,hx⟩:=qq3.1 hx;cases hx)|(obtain ⟨_,_,hx⟩:=qrK.1 hx;cases hx))
 obtain ⟨y,rfl,hy⟩:=hop;simp only[ndS] at hn ⊢;split at hn
 ·rename_i p hp;obtain ⟨q,hq,hsim⟩:=qiu (P:=P) (t:=type) hs (qp ht hy hp) hn;exact ⟨q,hq,hsim.next⟩
 ·exact absurd rfl hn
theorem qlP{P:Program}{E:En}{e:Env}{S:St}{a:Act}{w:World}{o:Oper}{k:K}(hc:yi P o=some k)(hn:ndK e k≠[])(ht:Z5 E e a.tmps)(hs:SR E S w):
  ∃v u,v∈ndK e k∧(execOp a.eval o).run P w=.ok (.value u) w∧VR E v u:=by
 have hk:∃x,k=.ex x:=by cases k <;> first|exact ⟨_,rfl⟩|exact absurd rfl hn
 obtain ⟨x,rfl⟩:=hk
 have hx:Jy P o=some x∨yU P o=some (.ex x):=by
  unfold yi at hc;split at hc
  ·rename_i k' hk;cases hc;exact .inr hk
  ·cases hx:Jy P o with
   | none=>rw[hx] at hc;cases hc
   | some x'=>rw[hx] at hc;cases hc;exact .inl rfl
 obtain ⟨dst,op,type,pos,after,guard⟩:=o;cases x <;> simp only[ndK,ndX] at hn <;> try exact absurd rfl hn
 rename_i neg x';rcases hx with hx|hx
 ·cases op <;> simp only[Jy] at hx <;> try (cases hx;done)
  case binOp bop t x y yt=>
   split at hx
   ·cases hx
   rename_i hop
   have hop':∀neg,(bop==BinOp.neq)=neg→bop=if neg=true then .neq else .eql:=by
    intro neg hn;subst hn;cases bop <;> first|rfl|(simp at hop;done)|(exact absurd hop (by decide))
   split at hx <;> try cases hx
   ·split at hx
    ·cases hx
    ·split at hx <;> cases hx
   ·rename_i el hu;split at hx
    ·rename_i hnil
     cases hxx:qj x with
     | none=>rw[hxx] at hx;cases hx
     | some x2=>
      rw[hxx] at hx;cases hx;simp only[ndK,ndX];split at hn
      ·rename_i hv;have hvr:=qp ht hxx hv;have hy0:=jT (a:=a) hnil;generalize hua:a.eval x=u at hvr;have hform:∃ad l c,u=.slice ad l c:=by cases hvr <;> exact ⟨_,_,_,rfl⟩
       obtain ⟨ad,l,c,rfl⟩:=hform;refine ⟨_,_,?_,qao hu (hop' _ rfl) hua hy0,.bool _⟩
       ·simp only[qrl,V.bool.injEq,List.not_mem_nil,or_false];generalize (if (bop==BinOp.neq)=true then !ad.isNone else ad.isNone)=q;cases q <;> simp
      ·exact absurd rfl hn
    ·cases hx
  all_goals (exfalso;revert hx;repeat' split)
  all_goals (first|contradiction|(intro hx;cases hx;done)|(intro hx;simp only[qq3] at hx;obtain ⟨_,_,hx⟩:=hx;cases hx;done)|(intro hx;simp only[qrK] at hx;obtain ⟨_,_,hx⟩:=hx;cases hx;done)|(intro hx;simp at hx;done)|skip)
 ·exact absurd hx (qa1 _ _ _)
end Go.Proofs.YtbifpocccfkhhaaGreatDoor
