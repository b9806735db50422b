/- A part. -/
import Derived.Test.YtbifpocccfkhhaaGreatDoorQc
import Derived.Scope
import Derived.RangeFuncLeaves
import Derived.RangeFuncRecord
set_option linter.all false
noncomputable section
namespace Go.Proofs.YtbifpocccfkhhaaGreatDoor
open Go
def qie(m:Nat)(aft:Nat→List Nat):Nat→List Nat→List Nat
 | 0,S=>S
 | n+1,S=>qie m aft n ((List.range m).filter fun i=>S.contains i || S.any fun s=>(aft s).contains i)
theorem qeP{m:Nat}{aft:Nat→List Nat}{C:Nat→Prop}(hC:∀s,C s→∀r,r∈aft s→C r):∀(n:Nat) (S:List Nat),(∀s,s∈S→C s)→∀s,s∈qie m aft n S→C s
 | 0,S,h=>h
 | n+1,S,h=>qeP hC n _ fun s hs=>by
  simp only[qvh,qvK,List.contains_iff_mem,qvE] at hs;rcases hs.2 with h1|⟨r,h1,h2⟩
  ·exact h s h1
  ·exact hC r (h r h1) s h2
def qfj(ops:Array Oper):Bool:=
 let m:=ops.size - 1
 let S:=qie m (qb9 ops) m (qb9 ops m)
 (List.range m).all (fun i=>S.contains i) && (qb9 ops m).all (fun r=>decide (r<m)) && (List.range m).all (fun i=>(qb9 ops i).all (fun r=>decide (r<i)) && match ops[i]? with
  | some o=>match o.guard with
   | none=>true
   | some (j,_)=>decide (j<m)
  | none=>false)
theorem Oper.wpIn_exit{F:Fence}{n:Nat}{P:Program}{o:Oper}{a:Act}{w:World}{K:Act→World→Prop}{Q Q':Exit→Act→World→Prop}(hq:∀x a w,x≠.normal→Q x a w→Q' x a w)(h:o.wpIn F n P a w K Q):o.wpIn F n P a w K Q':=by
 obtain ⟨h1,h2⟩:=h;have hlet:LetsOut Q→LetsOut Q':=fun ⟨a,w,h⟩=>⟨a,w,hq _ _ _ (by simp) h⟩
 refine ⟨h1,?_⟩;generalize (o.semAt F.round a.eval).run P w=r at h2 ⊢
 cases r with
 | ok nx w'=>
  cases nx <;> simp only[Oper.uponIn] at h2 ⊢
  case value v=>exact h2
  case skip=>exact h2
  case defer d=>exact h2
  case enter f args=>exact ⟨h2.1,h2.2.mono fun e w'' he=>by cases e <;> first|exact he|exact hq _ _ _ (by simp) he|exact hlet he⟩
  case row r args=>exact ⟨h2.1,h2.2.mono fun v w'' he=>he⟩
  case round l f t x y=>exact ⟨h2.1,h2.2.mono fun e w'' he=>by cases e <;> first|exact he|exact hq _ _ _ (by simp) he|exact hlet he⟩
 | halt x w'=>
  cases x <;> simp only[Oper.uponIn] at h2 ⊢
  case panic v=>exact hq _ _ _ (by simp) h2
def qkt(F:Fence)(n:Nat)(P:Program)(ops:Array Oper)(Q:Exit→Act→World→Prop):Exit→Act→World→Prop
 | .normal,a,w=>wpOpIn F n P ops Q (ops.size - 1) (Q .normal) a w
 | x,a,w=>Q x a w
theorem qcK{l:Array Bool}{i:Nat}(d:Bool)(hi:i<l.size):(l.push false).getD i d=l.getD i d:=by
 simp only[Array.getD];rw[dif_pos hi,dif_pos (by simp;omega)];simp[Array.getElem_push_lt hi]
theorem qqZ{F:Fence}{n:Nat}{P:Program}{ops':Array Oper}{o:Oper}{Q:Exit→Act→World→Prop}(hall:qfj (ops'.push o)=true):
  ∀(fuel:Nat) (l:Array Bool) (a:Act) (w:World),l.size=ops'.size→(∀s,l.getD s false=true→∀r,r∈qb9 (ops'.push o) s→l.getD r false=true)→l.toList.count false≤fuel→
   wpAnyIn F n P .any ops' (qkt F n P (ops'.push o) Q) fuel l a w→wpAnyIn F n P .any (ops'.push o) Q (fuel+1) (l.push false) a w:=by
 have hm:(ops'.push o).size - 1=ops'.size:=by simp
 simp only[qfj,hm,qt3,quj,List.mem_range,List.contains_iff_mem,decide_eq_true_eq] at hall;obtain ⟨⟨hcl,hlast⟩,hgd⟩:=hall;have ho:(ops'.push o)[ops'.size]?=some o:=by simp
 have hget:∀i,i<ops'.size→(ops'.push o)[i]?=ops'[i]?:=fun i hi=>by rw[quV,if_neg (by omega)]
 have haft:∀i o',(ops'.push o)[i]?=some o'→∀e,e∈o'.after→Region.binds .any e=true→e.on∈qb9 (ops'.push o) i:=fun i o' ho' e he hb=>by
  simp only[qb9,ho',qul,qvh];exact ⟨e,⟨by simpa using he,hb⟩,rfl⟩
 have hwait:∀l:Array Bool,l.size=ops'.size→(∀s,l.getD s false=true→∀r,r∈qb9 (ops'.push o) s→l.getD r false=true)→ops'.size∈Region.ready .any (ops'.push o) (l.push false)→∀i,i<ops'.size→l.getD i false=true:=by
  intro l hl hclosed hr i hi;obtain ⟨_,o',ho',hh⟩:=mem_ready.1 hr;rw[ho] at ho';cases ho';refine qeP (C:=fun s=>l.getD s false=true) hclosed ops'.size (qb9 (ops'.push o) ops'.size) (fun s hs=>?_) i (hcl i hi);have hsl:=hlast s hs;simp only[qb9,ho,qul,qvh] at hs;obtain ⟨e,⟨he,hb⟩,rfl⟩:=hs;have:=hh e (by simpa using he) hb;rw[qcK _ (by rw[hl];exact hsl)] at this;exact this
 have hready:∀l:Array Bool,l.size=ops'.size→∀i,i<ops'.size→(i∈Region.ready .any (ops'.push o) (l.push false)↔i∈Region.ready .any ops' l):=by
  intro l hl i hi;rw[mem_ready,mem_ready,hget i hi,qcK _ (by omega)]
  have hafter:∀o',ops'[i]?=some o'→∀e∈o'.after,Region.binds .any e=true→e.on<ops'.size:=by
   intro o' ho' e he hb;have:=(hgd i hi).1 e.on (haft i o' (by rw[hget i hi];exact ho') e he hb);omega
  constructor
  ·rintro ⟨h1,o',h2,h3⟩
   exact ⟨h1,o',h2,fun e he hb=>by
    have:=h3 e he hb;rw[qcK _ (by rw[hl];exact hafter o' h2 e he hb)] at this;exact this⟩
  ·rintro ⟨h1,o',h2,h3⟩
   exact ⟨h1,o',h2,fun e he hb=>by
    rw[qcK _ (by rw[hl];exact hafter o' h2 e he hb)];exact h3 e he hb⟩
 have hrange:∀(l:Array Bool) (i:Nat),i∈Region.ready .any (ops'.push o) (l.push false)→i<ops'.size∨i=ops'.size:=fun l i hi=>by
  obtain ⟨_,o',ho',_⟩:=mem_ready.1 hi;have:=(quc.1 ho').1;simp at this;omega
 have hnone:∀l:Array Bool,l.size=ops'.size→Region.ready .any ops' l=[]→∀i,i<ops'.size→l.getD i false=true:=by
  intro l hl hr i
  induction i using Nat.strongRecOn with
  | ind i ih=>
   intro hi
   cases hb:l.getD i false with
   | true=>rfl
   | false=>
    exfalso;have hoi:ops'[i]?=some (ops'[i]'hi):=by simp
    have hmem:i∈Region.ready .any ops' l:=by
     refine mem_ready.2 ⟨?_,_,hoi,fun e he hbi=>?_⟩
     ·have hil:i<l.size:=by omega
      simp only[Array.getD,hil,dif_pos] at hb ⊢;exact hb
     ·have hlt:=(hgd i hi).1 e.on (haft i _ (by rw[hget i hi];exact hoi) e he hbi);exact ih _ hlt (by omega)
    rw[hr] at hmem;cases hmem
 have hlastReady:∀l:Array Bool,l.size=ops'.size→(∀i,i<ops'.size→l.getD i false=true)→ops'.size∈Region.ready .any (ops'.push o) (l.push false):=by
  intro l hl hall;refine mem_ready.2 ⟨by simp[Array.getD,hl,Array.getElem_push],o,ho,fun e he hb=>?_⟩;have hlt:=hlast e.on (haft _ o ho e he hb);rw[qcK _ (by omega)];exact hall _ hlt
 have hdone:∀(fuel:Nat) (l:Array Bool) (a:Act) (w:World),l.size=ops'.size→(∀i,i<ops'.size→l.getD i false=true)→Q .normal a w→wpAnyIn F n P .any (ops'.push o) Q fuel ((l.push false).setIfInBounds ops'.size true) a w:=by
  intro fuel l a w hl hall hQ
  have hempty:Region.ready .any (ops'.push o) ((l.push false).setIfInBounds ops'.size true)=[]:=by
   cases hr:Region.ready .any (ops'.push o) ((l.push false).setIfInBounds ops'.size true) with
   | nil=>rfl
   | cons i r=>
    exfalso;have hi:i∈Region.ready .any (ops'.push o) ((l.push false).setIfInBounds ops'.size true):=by rw[hr];simp
    obtain ⟨h1,o',ho',_⟩:=mem_ready.1 hi;have hlt:=(quc.1 ho').1;simp only[Array.size_push] at hlt
    have htrue:((l.push false).setIfInBounds ops'.size true).getD i false=true:=by
     rw[qcv (by simp;omega)];by_cases hil:i=ops'.size
     ·exact .inl hil
     ·right;rw[qcK _ (by omega)];exact hall i (by omega)
    obtain ⟨h2,h3⟩:=qcq.1 h1;obtain ⟨h4,h5⟩:=qcl.1 htrue;rw[h3] at h5;cases h5
  cases fuel with
  | zero=>exact ⟨hempty,hQ⟩
  | succ f=>exact ⟨fun _=>hQ,fun i hi=>by rw[hempty] at hi;cases hi⟩
 have hopmono:∀{i:Nat} {K K':Act→World→Prop} {a:Act} {w:World},(∀a w,K a w→K' a w)→wpOpIn F n P (ops'.push o) Q i K a w→wpOpIn F n P (ops'.push o) Q i K' a w:=by
  intro i K K' a w hK h;unfold wpOpIn at h ⊢;split
  ·rename_i h1;rw[h1] at h;exact hK _ _ h
  ·rename_i o1 h1;rw[h1] at h;simp only at h;split
   ·rename_i hw;rw[if_pos hw] at h;exact Oper.wpIn_mono hK h
   ·rename_i hw;rw[if_neg hw] at h;exact ⟨h.1,hK _ _ h.2⟩
 have last:∀(fuel:Nat) (l:Array Bool) (a:Act) (w:World),l.size=ops'.size→(∀i,i<ops'.size→l.getD i false=true)→qkt F n P (ops'.push o) Q .normal a w→
   wpOpIn F n P (ops'.push o) Q ops'.size (wpAnyIn F n P .any (ops'.push o) Q fuel ((l.push false).setIfInBounds ops'.size true)) a w:=by
  intro fuel l a w hl hall h;simp only[qkt,hm] at h;exact hopmono (fun a w hq=>hdone fuel l a w hl hall hq) h
 intro fuel
 induction fuel with
 | zero=>
  intro l a w hl hclosed hc h;obtain ⟨h1,h2⟩:=h;have hall:=hnone l hl h1;refine ⟨fun hr=>?_,fun i hi=>?_⟩
  ·have:=hlastReady l hl hall;rw[hr] at this;cases this
  ·rcases hrange l i hi with hlt|rfl
   ·rw[hready l hl i hlt,h1] at hi;cases hi
   ·exact last 0 l a w hl hall h2
 | succ fuel ih=>
  intro l a w hl hclosed hc h;obtain ⟨h1,h2⟩:=h;refine ⟨fun hr=>?_,fun i hi=>?_⟩
  ·have hr':Region.ready .any ops' l=[]:=by
    cases hq:Region.ready .any ops' l with
    | nil=>rfl
    | cons j r=>
     exfalso;have hj:j∈Region.ready .any ops' l:=by rw[hq];simp
     obtain ⟨_,o',ho',_⟩:=mem_ready.1 hj;have hlt:=(quc.1 ho').1;rw[←hready l hl j hlt,hr] at hj;cases hj
   have:=hlastReady l hl (hnone l hl hr');rw[hr] at this;cases this
  ·rcases hrange l i hi with hlt|rfl
   ·have hi':=(hready l hl i hlt).1 hi;have hop:=h2 i hi';obtain ⟨hun,o1,ho1,_⟩:=mem_ready.1 hi'
    have hset:(l.push false).setIfInBounds i true=(l.setIfInBounds i true).push false:=by
     apply qvF;intro j;rw[Array.getElem?_setIfInBounds,quV,quV,Array.getElem?_setIfInBounds];simp only[Array.size_push,Array.size_setIfInBounds];by_cases hij:i=j
     ·subst hij;rw[if_pos rfl,if_pos (by omega),if_neg (by omega),if_pos rfl,if_pos (by omega)]
     ·rw[if_neg hij,if_neg hij]
    have hnext:∀a' w',wpAnyIn F n P .any ops' (qkt F n P (ops'.push o) Q) fuel (l.setIfInBounds i true) a' w'→wpAnyIn F n P .any (ops'.push o) Q (fuel+1) ((l.push false).setIfInBounds i true) a' w':=by
     intro a' w' h';rw[hset];refine ih _ a' w' (by simpa using hl) (fun s hs r hr=>?_) ?_ h'
     ·rw[qcv (by omega)] at hs ⊢;rcases hs with rfl|hs
      ·right;obtain ⟨_,o2,ho2,hall2⟩:=mem_ready.1 hi';simp only[qb9,hget s hlt,ho2,qul,qvh] at hr;obtain ⟨e,⟨he,hb⟩,rfl⟩:=hr;exact hall2 e (by simpa using he) hb
      ·exact .inr (hclosed s hs r hr)
     ·have:=count_set hun;omega
    unfold wpOpIn at hop ⊢;rw[hget i hlt,ho1];rw[ho1] at hop;simp only at hop ⊢
    have hwd:Region.wanted o1 (yielded (ops'.push o) a.tmps)=Region.wanted o1 (yielded ops' a.tmps):=by
     have hg:=(hgd i hlt).2;rw[hget i hlt,ho1] at hg;simp only at hg;unfold Region.wanted;split
     ·rfl
     ·rename_i j want hgj;rw[hgj] at hg;simp only[decide_eq_true_eq] at hg;simp only[yielded,hget j hg]
    rw[hwd];split
    ·rename_i hw;rw[if_pos hw] at hop;refine Oper.wpIn_exit (fun x a w hx hq=>?_) (Oper.wpIn_mono hnext hop);cases x <;> first|exact absurd rfl hx|exact hq
    ·rename_i hw;rw[if_neg hw] at hop;exact ⟨hop.1,hnext _ _ hop.2⟩
   ·have hall:=hwait l hl hclosed hi
    have hr':Region.ready .any ops' l=[]:=by
     cases hq:Region.ready .any ops' l with
     | nil=>rfl
     | cons j r=>
      exfalso;have hj:j∈Region.ready .any ops' l:=by rw[hq];simp
      obtain ⟨h3,o',ho',_⟩:=mem_ready.1 hj;have hlt:=(quc.1 ho').1;obtain ⟨h4,h5⟩:=qcq.1 h3;obtain ⟨h6,h7⟩:=qcl.1 (hall j hlt);rw[h5] at h7;cases h7
    exact last (fuel+1) l a w hl hall (h1 hr')
theorem qeZ{F:Fence}{n:Nat}{P:Program}{ops:Array Oper}{md:Region.Mode}{Q Q':Exit→Act→World→Prop}(hq:∀x a w,Q x a w→Q' x a w):∀(fuel:Nat) (l:Array Bool) (a:Act) (w:World),wpAnyIn F n P md ops Q fuel l a w→wpAnyIn F n P md ops Q' fuel l a w
 | 0,l,a,w,h=>⟨h.1,hq _ _ _ h.2⟩
 | fuel+1,l,a,w,h=>by
  refine ⟨fun hr=>hq _ _ _ (h.1 hr),fun i hi=>?_⟩;have hop:=h.2 i hi;unfold wpOpIn at hop ⊢;split
  ·rename_i h1;rw[h1] at hop;exact qeZ hq fuel _ _ _ hop
  ·rename_i o1 h1;rw[h1] at hop;simp only at hop;split
   ·rename_i hw;rw[if_pos hw] at hop;exact Oper.wpIn_exit (fun x a w _ hx=>hq x a w hx) (Oper.wpIn_mono (fun a w hx=>qeZ hq fuel _ _ _ hx) hop)
   ·rename_i hw;rw[if_neg hw] at hop;exact ⟨hop.1,qeZ hq fuel _ _ _ hop.2⟩
def qcT(P:Program)(o':O')(Q:Post):Post
 | .normal,e,S=>wops P [o'] (Q .normal) e S
 | x,e,S=>Q x e S
theorem qid{P:Program}{N n0 m0:Nat}{ro:Option Nat}{n id:Nat}{ops:Array Oper}{Q:Post}{ds:List D}{zs:List V}{o:Oper}{o':O'}{E:En}{e:Env}{S:St}{a:Act}{w:World}
  (hc:qbZ P N ops=some (ds,zs)) (hall:qfj (ops.push o)=true) (ho:qbu P N (ops.push o) o=some o') (hr:Rel N n0 m0 E e S a w)
  (h:dwp P S.length ds (dend S.length ds (qcT P o' Q .normal)) e (S++phs zs) [S++phs zs]):(Code.region id (ops.push o) true).wpIn (qb5 ro) n P (Up N n0 m0 E S w Q) a w:=by
 refine wpIn_region_any (qc1 hc).1 ?_;have h1:=qdF (ro:=ro) (n:=n) (Q:=qcT P o' Q) hc hr h
 have h2:=qeZ (Q':=qkt (qb5 ro) n P (ops.push o) (Up N n0 m0 E S w Q)) (fun x a1 w1 hx=>by
  cases x <;> try exact hx
  obtain ⟨E',e',S',r,xt,q⟩:=hx;have hw:=qbM (n:=n) (ro:=ro) (Q:=Q) (ops:=ops.push o) [o] [o'] E' e' S' a1 w1 (by simp[ho]) r q;have hw:=qaQ (Q':=Up N n0 m0 E S w Q) (fun x a' w'' hq=>hq.back xt) hw;simp only[qkt,Array.size_push,Nat.add_sub_cancel];unfold wpOpIn;rw[show (ops.push o)[ops.size]?=some o by simp];exact hw) ops.size _ a _ h1
 have h3:=qqZ hall ops.size (Array.replicate ops.size false) a _ (by simp) (fun s hs=>by
  have:(Array.replicate ops.size false).getD s false=false:=by
   simp only[Array.getD];split <;> simp
  rw[this] at hs;cases hs) (by simp) h2
 rw[Array.size_push,Array.replicate_succ];exact h3
inductive C' where
 | skip
 | reg (ops:List O')
 | draw (ds:List D) (zs:List V)
 | drawl (ds:List D) (zs:List V) (o:O')
 | seq (a b:C')
 | cond (c:Opd) (a b:C')
 | block (id:Nat) (c:C')
 | scope (c:C')
 | loop (c:C')
 | exit (id:Nat)
 | ret
 | bad
 | rf (g:Opd) (ps:List Nat) (asg body:Code) (ca cb:C') (N:Nat) (ts:List Nat)
 deriving Inhabited
def C'.noRf:C'→Bool
 | .seq a b|.cond _ a b=>a.noRf && b.noRf
 | .block _ c|.scope c|.loop c=>c.noRf
 | .rf ..=>false
 | _=>true
def C'.uses:C'→List Nat
 | .reg ops=>ops.flatMap O'.tmps
 | .draw ds _=>ds.flatMap fun d=>d.o.tmps
 | .drawl ds _ o=>(ds.flatMap fun d=>d.o.tmps)++o.tmps
 | .seq a b=>a.uses++b.uses
 | .cond c a b=>c.tmps++a.uses++b.uses
 | .block _ c|.scope c|.loop c=>c.uses
 | _=>[]
def qtM:K→Bool
 | .call ..=>true
 | .ex (.nxt _)=>true
 | .ex (.eqn ..)=>true
 | _=>false
def qeX(P:Program)(N:Nat)(ops:Array Oper):Option (List D×List V×O'):=
 match ops.back? with
 | none=>none
 | some o=>if qfj ops=true then match qbu P N ops o with
   | some o'=>if qtM o'.k=true then (qbZ P N ops.pop).map fun p=>(p.1,p.2,o') else none
   | none=>none
  else none
theorem qgv{P:Program}{N:Nat}{ops:Array Oper}{ds:List D}{zs:List V}{o':O'}(h:qeX P N ops=some (ds,zs,o')):∃ops' o,ops=ops'.push o∧qfj (ops'.push o)=true∧qbu P N (ops'.push o) o=some o'∧qbZ P N ops'=some (ds,zs):=by
 unfold qeX at h;split at h
 ·cases h
 ·rename_i o ho;split at h <;> try cases h
  rename_i hl;split at h <;> try cases h
  rename_i o1 hc;split at h <;> try cases h
  cases hp:qbZ P N ops.pop with
  | none=>rw[hp] at h;cases h
  | some p=>
   rw[hp] at h;simp only[que,Option.some.injEq,Prod.mk.injEq] at h;obtain ⟨h1,h2,h3⟩:=h
   have hpush:ops=ops.pop.push o:=by
    obtain ⟨l⟩:=ops;rw[Array.back?_eq_getElem?] at ho;obtain ⟨hlt,ho⟩:=quc.1 ho;apply qvF;intro j;rw[quV];simp only[Array.size_pop];split
    ·rename_i hj;subst hj;rw[←ho];simp
    ·rename_i hj;rw[Array.getElem?_pop];split
     ·rfl
     ·rw[qvl (by omega)]
   refine ⟨ops.pop,o,hpush,by rw[←hpush];exact hl,by rw[←hpush,←h3];exact hc,by rw[hp,←h1,←h2]⟩
def comp(P:Program)(N:Nat):Code→Option C'
 | .skip=>some .skip
 | .label _=>some .skip
 | .region _ ops draw=>if draw then match qeX P N ops with
   | some p=>some (.drawl p.1 p.2.1 p.2.2)
   | none=>match qbZ P N ops with
    | some p=>some (.draw p.1 p.2)
    | none=>some .bad
  else match ops.toList.mapM (qbu P N ops) with
   | some l=>some (.reg l)
   | none=>some .bad
 | .seq a b=>match comp P N a,comp P N b with
  | some a,some b=>some (.seq a b)
  | _,_=>none
 | .cond c a b=>match qam c,comp P N a,comp P N b with
  | some c,some a,some b=>some (.cond c a b)
  | _,_,_=>none
 | .block id c=>(comp P N c).map (.block id)
 | .scope c=>(comp P N c).map .scope
 | .loop c=>(comp P N c).map .loop
 | .exit id=>some (.exit id)
 | .ret=>some .ret
 | .rangeFunc f ps asg body=>match qam f,comp P N asg,comp P N body with
  | some g,some ca,some cb=>if (ca.noRf && cb.noRf && ps.toList.all fun p=>decide (p<N))=true then some (.rf g ps.toList asg body ca cb N (qn9 (ca.uses++cb.uses))) else some .bad
  | _,_,_=>some .bad
 | _=>some .bad
def qdI(N:Env→St→Prop)(Q:Post):Post
 | .normal,e,S=>N e S
 | x,e,S=>Q x e S
def qc7(id:Nat)(Q:Post):Post
 | .exit id',e,S=>if id'=id then Q .normal e S else Q (.exit id') e S
 | x,e,S=>Q x e S
def qfu(Q:Post):Post
 | .goto _,_,_=>False
 | x,e,S=>Q x e S
theorem qbV{P:Program}{b:Frame}{a:Act}{k:List Item}{cs:List Frame}{w:World}{c:Code}:step P (lone (b.atR a (.code (.scope c)::k)) cs w)=.next (lone (b.atR a (.code c::.inScope c::k)) cs w):=
 step_lone_go (by simp[stepG,stepG.exec,Frame.atR])
theorem qgZ{P:Program}{b:Frame}{a:Act}{k:List Item}{cs:List Frame}{w:World}{c:Code}:step P (lone (b.atR a (.inScope c::k)) cs w)=.next (lone (b.atR a k) cs w):=
 step_lone_go (by simp[stepG,stepG.exec,Frame.atR])
theorem qkL{F:Fence}{n:Nat}{P:Program}{c:Code}{Q:Exit→Act→World→Prop}{a:Act}{w:World}(h:c.wpIn F n P (Exit.noGoto Q) a w):(Code.scope c).wpIn F n P Q a w:=by
 intro b k cs hro hb hr;have h0:(lone (b.atR a (.code (.scope c)::k)) cs w).fenced P F:=fenced_calm hb hr rfl;obtain ⟨e,a₁,w₁,hq,harr⟩:=h b (.inScope c::k) cs hro hb hr
 cases e with
 | normal=>exact ⟨.normal,a₁,w₁,hq,.head h0 qbV (StepsIn.trans harr (.one (fenced_calm hb hr rfl) qgZ))⟩
 | exit id'=>
  have hx:exitTo id' (.inScope c::k)=exitTo id' k:=by simp[exitTo]
  exact ⟨.exit id',a₁,w₁,hq,fun k' hk=>.head h0 qbV (harr.1 k' (by rw[hx];exact hk)),
   fun hr' hk=>let ⟨k₁,h1,h2⟩:=harr.2 hr' (by rw[hx];exact hk);⟨k₁,h1,.head h0 qbV h2⟩⟩
 | goto l=>exact hq.elim
 | ret=>exact ⟨_,a₁,w₁,hq,.of_steps (.one h0 qbV) harr⟩
 | panic ch=>exact ⟨_,a₁,w₁,hq,.of_steps (.one h0 qbV) harr⟩
 | outgrown=>exact ⟨_,a₁,w₁,hq,.of_steps (.one h0 qbV) harr⟩
def WP(P:Program):C'→Post→Env→St→Prop
 | .skip,Q,e,S=>Q .normal e S
 | .reg ops,Q,e,S=>wops P ops (Q .normal) e S
 | .draw ds zs,Q,e,S=>dwp P S.length ds (dend S.length ds (Q .normal)) e (S++phs zs) [S++phs zs]
 | .drawl ds zs o,Q,e,S=>dwp P S.length ds (dend S.length ds (qcT P o Q .normal)) e (S++phs zs) [S++phs zs]
 | .seq a b,Q,e,S=>WP P a (qdI (WP P b Q) Q) e S
 | .cond c a b,Q,e,S=>match c.ev e with
  | some (.bool t)=>(t=true→WP P a Q e S)∧(t=false→WP P b Q e S)
  | _=>False
 | .block id c,Q,e,S=>WP P c (qc7 id Q) e S
 | .scope c,Q,e,S=>WP P c (qfu Q) e S
 | .loop c,Q,e,S=>∃(I:Nat→Env→St→Prop) (n:Nat),(∃e',Env.sub e' e∧I n e' S)∧∀n e S,I n e S→WP P c (qdI (fun e S=>∃n',n'<n∧∃e',Env.sub e' e∧I n' e' S) Q) e S
 | .exit id,Q,e,S=>Q (.exit id) e S
 | .ret,Q,e,S=>Q .ret e S
 | .bad,_,_,_=>False
 | .rf g ps asg body ca cb N ts,Q,e,S=>comp P N asg=some ca→comp P N body=some cb→match g.ev e with
  | some (.fn (.func k) fs cs)=>∃R,Spec P k (fs++[.yld S.length]++cs) (S++[.loop ⟨.ready,none,ps,asg,body,e.keep ts,N⟩]) R∧∀r S',R r S'→∃i,S'[S.length]?=some (.loop i)∧i.st≠.busy∧
   match i.pend with
   | none=>Q .normal e (S'.set S.length (.loop { i with st:=.exhausted }))
   | some .ret=>Q .ret e (S'.set S.length (.loop { i with st:=.exhausted }))
   | some (.exit id)=>Q (.exit id) e (S'.set S.length (.loop { i with st:=.exhausted }))
   | some _=>False
  | _=>False
theorem Rel.sub{N n0 m0:Nat}{E:En}{e e':Env}{S:St}{a:Act}{w:World}(h:Rel N n0 m0 E e S a w)(hs:Env.sub e' e):Rel N n0 m0 E e' S a w:=
 ⟨fun t v hv=>h.tmps t v (hs t v hv),h.size,h.defers,h.base,h.sr⟩
theorem Up.then{N n0 m0:Nat}{E:En}{S:St}{w:World}{M:Env→St→Prop}{Q:Post}{x:Exit}{a:Act}{w':World}{next:Act→World→Prop}(h:Up N n0 m0 E S w (qdI M Q) x a w')
  (hn:∀E' e' S',Rel N n0 m0 E' e' S' a w'→Ext n0 E S w E' S' w'→M e' S'→next a w'):Exit.then next (Up N n0 m0 E S w Q) x a w':=by
 obtain ⟨E',e',S',r,ex,q⟩:=h;cases x <;> first|exact hn E' e' S' r ex q|exact ⟨E',e',S',r,ex,q⟩
theorem Ext.push{E:En}{S:St}{w:World}(h:SR E S w)(o:Obj):SR E S { w with heap:=w.heap.push o }∧∀n,Ext n E S w E S { w with heap:=w.heap.push o }:=by
 refine ⟨⟨h.gl.old (fun _ _ _ h=>h) (fun b _ _ _ hb _=>qbf (qeu hb)),fun b o' c hc=>?_,fun l ob hl=>?_,h.dom,h.apart,fun b hb=>?_,h.inj⟩,fun n=>⟨by simp,fun _ _ _ h=>h,fun _ _ _ _ h=>h,fun _ _ h=>h,fun _ h=>.inl h,fun _ _ _ h=>.inl h,fun b hb _=>qbf hb,rfl⟩⟩
 ·have:=h.I b o' c hc;rw[cell?_heap (qbf (cell?_lt this))];exact this
 ·by_cases hd:ob=.dead
  ·subst hd;trivial
  exact (h.obs l ob hl).mono (En.le_refl E) (fun _ _ hx=>hx) (fun st x hx=>qbf (h.lt _ ⟨l,st,x,⟨ob,hl,hd⟩,hx,rfl⟩))
 ·have:=h.lt b hb;simp;omega
theorem SR.loopSet{E:En}{S:St}{w:World}(h:SR E S w){l:Nat}{i i':LI}{x:Blk}{r r':Loop}(hl:S[l]?=some (.loop i))(hx:E.ρ l 0=some x)(hr:w.heap[x.b]?=some (.loop r))
  (h1:r'.state=i'.st) (h2:r'.pending=i'.pend) (h3:r'.params.toList=i'.ps) (h4:r'.assign=i'.asg) (h5:r'.body=i'.body) (h6:r'.tmps.size=i'.N) (h7:Tmps E i'.e r'.tmps):
  SR E (S.set l (.loop i')) (w.putObj x.b (.loop r'))∧Ext S.length E S w E (S.set l (.loop i')) (w.putObj x.b (.loop r')):=by
 have hlt:x.b<w.heap.size:=(quc.1 hr).1;have hlive:live S l:=⟨_,hl,by simp⟩;refine h.change (E':=E) (w':=w.putObj x.b (.loop r')) hlive rfl (En.le_refl E) (fun _ _ _=>rfl) (fun st z hz=>.inl ⟨st,z,hz,rfl⟩) (by simp[World.putObj]) (fun b hb' hne=>?_) rfl ⟨x,r',hx,?_,h1,h2,h3,h4,h5,h6,h7⟩
 ·show (w.heap.setIfInBounds x.b _)[b]?=_;rw[quq (hne 0 x hx)]
 ·show (w.heap.setIfInBounds x.b _)[x.b]?=_;simp[hlt]
theorem qov{P:Program}{N n0 m0 n:Nat}{f:Operand}{g:Opd}{ps:Array Tmp}{asg body:Code}{ts:List Nat}{Q:Post}{E:En}{e:Env}{S:St}{a:Act}{w:World}(hg:qam f=some g)
  (h:Unit→match g.ev e with
  | some (.fn (.func k) fs cs)=>∃R,Spec P k (fs++[.yld S.length]++cs) (S++[.loop ⟨.ready,none,ps.toList,asg,body,e.keep ts,N⟩]) R∧∀r S',R r S'→∃i,S'[S.length]?=some (.loop i)∧i.st≠.busy∧
   match i.pend with
   | none=>Q .normal e (S'.set S.length (.loop { i with st:=.exhausted }))
   | some .ret=>Q .ret e (S'.set S.length (.loop { i with st:=.exhausted }))
   | some (.exit id)=>Q (.exit id) e (S'.set S.length (.loop { i with st:=.exhausted }))
   | some _=>False
  | _=>False) (hr:Rel N n0 m0 E e S a w):(Code.rangeFunc f ps asg body).wpIn (qb5 none) n P (Up N n0 m0 E S w Q) a w:=by
 have h:=h ();split at h <;> try exact h.elim
 rename_i k fs cs hv;obtain ⟨R,hspec,hnext⟩:=h;have hfv:=qau hr.tmps hg hv;generalize hu:a.eval f=u at hfv
 obtain ⟨us,ws,rfl,b1,b2,b3,b4⟩:∃us ws,u=.func (.func k) us ws∧fs.length=us.size∧cs.length=ws.size∧(∀(i:Nat) (v:V) (u:Value),fs[i]?=some v→us[i]?=some u→VR E v u)∧(∀(i:Nat) (v:V) (u:Value),cs[i]?=some v→ws[i]?=some u→VR E v u):=by
  cases hfv with
  | fn h1 h2 g1 g2=>exact ⟨_,_,rfl,h1,h2,g1,g2⟩
 refine wpIn_rangeFunc fun fn _=>?_
 let w1:World:={ w with heap:=w.heap.push (.deferred (some [])) }
 obtain ⟨p1,p2⟩:=Ext.push hr.sr (.deferred (some []))
 let rec0:Loop:={ state:=.ready,pending:=none,fn,tmps:=a.tmps,params:=ps,assign:=asg,body,defers:=w.heap.size }
 let w2:World:={ w1 with heap:=w1.heap.push (.loop rec0) }
 have hsz1:w1.heap.size=w.heap.size+1:=by simp[w1]
 have hno:E.ρ S.length 0=none:=by
  cases hx:E.ρ S.length 0 with
  | none=>rfl
  | some y=>exact absurd (hr.sr.dom _ _ _ hx) (by omega)
 obtain ⟨q1,q2⟩:=p1.new (o:=.loop rec0) (ob:=.loop ⟨.ready,none,ps.toList,asg,body,e.keep ts,N⟩) (st:=0) (N:=0) (sz:=0) ⟨⟨w1.heap.size,0,0⟩,rec0,qa5,qcV,rfl,rfl,rfl,rfl,rfl,hr.size,(hr.tmps.keep ts).mono (qfh hno)⟩;have hle:E.le (E.at S.length 0 ⟨w1.heap.size,0,0⟩):=qfh hno;have hext:Ext S.length E S w (E.at S.length 0 ⟨w1.heap.size,0,0⟩) _ w2:=(p2 S.length).trans q2
 have hmarks:qeB m0 (E.at S.length 0 ⟨w1.heap.size,0,0⟩) (S++[.loop ⟨.ready,none,ps.toList,asg,body,e.keep ts,N⟩]) w2 ([{ target:=.collected w.heap.size,args:=#[] }]++a.defers):=by
  have hm:=qeB.step hext hr.defers;refine ⟨hm.1,⟨w.heap.size,rfl,hr.defers.1,?_,fun ho=>?_,fun d' hd' he=>?_⟩,hm.2⟩
  ·show (w1.heap.push _)[w.heap.size]?=_;rw[quV,if_neg (by omega)];simp[w1]
  ·rcases q2.own _ ho with ho|ho
   ·exact absurd (hr.sr.lt _ ho) (by omega)
   ·exact absurd (show w1.heap.size≤w.heap.size from ho) (by omega)
  ·have:∀(l:List Deferred),qdE m0 E S w l→∀d,d∈l→∃r,d.target=.collected r∧r<w.heap.size:=by
    intro l
    induction l with
    | nil=>intro _ d hd;cases hd
    | cons d0 l ih=>
     rintro ⟨⟨r,k1,_,k3,_⟩,hl⟩ d hd;rcases qum.1 hd with rfl|hd
     ·exact ⟨r,k1,(quc.1 k3).1⟩
     ·exact ih hl d hd
   obtain ⟨r,k1,k2⟩:=this _ hr.defers.2 d' hd';rw[he] at k1;cases k1;omega
 have hyld:VR (E.at S.length 0 ⟨w1.heap.size,0,0⟩) (.yld S.length) (.func (.yield (w.heap.size+1)) #[] #[]):=by
  have:=VR.yld (E:=E.at S.length 0 ⟨w1.heap.size,0,0⟩) (l:=S.length) (x:=⟨w1.heap.size,0,0⟩) qa5;rw[hsz1] at this ⊢;exact this
 refine ⟨w.heap.size+1,[{ target:=.collected w.heap.size,args:=#[] }],w2,{ target:=.fn (.func k) ws,args:=us++#[.func (.yield (w.heap.size+1)) #[] #[]] },w2,k,us++#[.func (.yield (w.heap.size+1)) #[] #[]]++ws,w2,?_,?_,fun _ _=>trivial,?_,fun hd=>by simp[qb5,Fence.wide] at hd,?_⟩
 ·exact run_enterLoop_outer fn a.tmps ps asg body
 ·simp only[resolve,rangeCall,hu,Deferred.ofValue,Sem.run_bind,Sem.run_pure,Result.andThen];rw[show Array.map a.eval #[Operand.const (Value.func (Fn.yield (w.heap.size+1)) #[] #[])]=#[Value.func (Fn.yield (w.heap.size+1)) #[] #[]] by simp[Act.eval]]
 ·simp only[invoke];exact hspec.1 _ w2
 ·have hargs:VRs (E.at S.length 0 ⟨w1.heap.size,0,0⟩) (fs++[.yld S.length]++cs) (us++#[.func (.yield (w.heap.size+1)) #[] #[]]++ws):=by
   refine ⟨by simp[b1,b2];omega,fun i v u hv hu=>?_⟩;rw[qt5] at hv;rw[Array.append_assoc] at hu;by_cases hi:i<fs.length
   ·rw[qt0 hi] at hv;rw[quS (by omega)] at hu;exact (b3 i v u hv hu).mono hle
   ·rw[qtW (by omega)] at hv;rw[qvf (by omega),←b1] at hu;by_cases hj:i - fs.length=0
    ·rw[hj] at hv hu;rw[quS (by simp)] at hu;simp at hv hu;subst hv;subst hu;exact hyld
    ·rw[qtW (by simp;omega)] at hv;rw[qvf (by simp;omega)] at hu;exact (b4 _ v u (by simpa using hv) (by simpa using hu)).mono hle
  refine CallsIn.mono (hspec.2 _ w2 _ (n - 1) q1 hargs) ?_;rintro ed w3 ⟨uv,r,E',S',rfl,hR,hvr,hsr,hext',hlen⟩;obtain ⟨i,hi,hst,hq⟩:=hnext r S' hR;obtain ⟨x,rc,r1,r2,r3,r4,r5,r6,r7,r8,r9⟩:=hsr.obs _ _ hi
  have hx:x.b=w.heap.size+1:=by
   have hlt:S.length<(S++[Ob.loop ⟨.ready,none,ps.toList,asg,body,e.keep ts,N⟩]).length:=by simp
   have:=hext'.ρ S.length 0 _ hlt qa5;rw[r1] at this;cases this;exact hsz1
  rw[hx] at r2;have hnb:rc.state≠.busy:=by rw[r3];exact hst
  obtain ⟨s1,s2⟩:=hsr.loopSet (i':={ i with st:=.exhausted }) (r':={ rc with state:=.exhausted }) hi r1 (by rw[hx];exact r2) rfl r4 r5 r6 r7 r8 r9;rw[hx] at s1 s2;have hbase:S.length≤S'.length:=by simp at hlen;omega
  have hrel:Rel N n0 m0 E' e (S'.set S.length (.loop { i with st:=.exhausted })) { a with defers:=[{ target:=.collected w.heap.size,args:=#[] }]++a.defers } (w3.putObj (w.heap.size+1) (.loop { rc with state:=.exhausted })):=by
   refine ⟨(hr.tmps.mono hle).mono (hext'.le q1),hr.size,?_,by simp;exact quJ hr.base hbase,s1⟩;exact qeB.step s2 (qeB.step hext' hmarks)
  have hxx:Ext n0 E S w E' (S'.set S.length (.loop { i with st:=.exhausted })) (w3.putObj (w.heap.size+1) (.loop { rc with state:=.exhausted })):=
   (hext.less hr.base).trans ((hext'.less (quJ hr.base (by simp))).trans (s2.less (quJ hr.base hbase)))
  refine ⟨rc.pending,_,run_endLoop r2 hnb,?_⟩;generalize hpd:rc.pending=pd;rw[hpd] at r4;have hrel':=hrel;have hxx':=hxx;rw[hpd] at hrel' hxx';split at hq
  ·rename_i hp;rw[hp] at r4;subst r4;exact ⟨E',e,_,hrel',hxx',hq⟩
  ·rename_i hp;rw[hp] at r4;subst r4;exact wpIn_ret ⟨E',e,_,hrel',hxx',hq⟩
  ·rename_i id hp;rw[hp] at r4;subst r4;exact wpIn_exit ⟨E',e,_,hrel',hxx',hq⟩
  ·exact hq.elim
theorem qgE{P:Program}{N n0 m0:Nat}{ro:Option Nat}{n:Nat}:∀(c:Code) (c':C') (Q:Post) (E:En) (e:Env) (S:St) (a:Act) (w:World),
  comp P N c=some c'→Rel N n0 m0 E e S a w→WP P c' Q e S→(ro=none∨c'.noRf=true)→c.wpIn (qb5 ro) n P (Up N n0 m0 E S w Q) a w:=by
 intro c
 induction c with
 | skip=>
  intro c' Q E e S a w hc hr h hro;simp only[comp] at hc;cases hc;exact wpIn_skip ⟨E,e,S,hr,Ext.refl _ _ _ _,h⟩
 | label l=>
  intro c' Q E e S a w hc hr h hro;simp only[comp] at hc;cases hc;exact wpIn_label ⟨E,e,S,hr,Ext.refl _ _ _ _,h⟩
 | region id ops draw=>
  intro c' Q E e S a w hc hr h hro;simp only[comp] at hc;split at hc
  ·rename_i hd;subst hd
   cases hd:qeX P N ops with
   | some p=>
    obtain ⟨ds,zs,o'⟩:=p;rw[hd] at hc;cases hc;obtain ⟨ops',o,rfl,h1,h2,h3⟩:=qgv hd;exact qid h3 h1 h2 hr h
   | none=>
   rw[hd] at hc;simp only at hc
   cases hl:qbZ P N ops with
   | none=>rw[hl] at hc;cases hc;exact h.elim
   | some p=>
    rw[hl] at hc;cases hc;exact qkb hl hr h
  ·rename_i hd;have:draw=false:=by simpa using hd
   subst this
   cases hl:ops.toList.mapM (qbu P N ops) with
   | none=>rw[hl] at hc;cases hc;exact h.elim
   | some l'=>
    rw[hl] at hc;cases hc;exact wpIn_region_list (qbM ops.toList l' E e S a w hl hr h)
 | seq x y ihx ihy=>
  intro c' Q E e S a w hc hr h hro;simp only[comp] at hc;split at hc <;> cases hc;rename_i x' y' hx hy;refine wpIn_seq (wpIn_mono (ihx x' _ E e S a w hx hr h (hro.imp (fun h=>h) fun h=>by simp[C'.noRf] at h;exact h.1)) fun ex a' w' hq=>?_);exact hq.then fun E' e' S' r x q=>wpIn_mono (ihy y' Q E' e' S' a' w' hy r q (hro.imp (fun h=>h) fun h=>by simp[C'.noRf] at h;exact h.2)) fun ex a'' w'' g=>g.back x
 | cond c x y ihx ihy=>
  intro c' Q E e S a w hc hr h hro;simp only[comp] at hc;split at hc <;> cases hc;rename_i c' x' y' hcc hx hy;simp only[WP] at h;split at h
  ·rename_i t ht;have hv:=qau hr.tmps hcc ht;generalize hu:a.eval c=u at hv;cases hv;refine wpIn_cond_split hu (fun ht=>ihx x' Q E e S a w hx hr (h.1 ht) (hro.imp (fun h=>h) fun h=>by simp[C'.noRf] at h;exact h.1)) (fun ht=>ihy y' Q E e S a w hy hr (h.2 ht) (hro.imp (fun h=>h) fun h=>by simp[C'.noRf] at h;exact h.2))
  ·exact h.elim
 | block id c ih=>
  intro c' Q E e S a w hc hr h hro;simp only[comp] at hc
  cases hx:comp P N c with
  | none=>rw[hx] at hc;cases hc
  | some x'=>
   rw[hx] at hc;cases hc;refine wpIn_block (wpIn_mono (ih x' _ E e S a w hx hr h (hro.imp (fun h=>h) fun h=>by simp[C'.noRf] at h;exact h)) fun ex a' w' hq=>?_);obtain ⟨E',e',S',r,x,q⟩:=hq;cases ex <;> simp only[Exit.inBlock,qc7] at q ⊢<;> try exact ⟨E',e',S',r,x,q⟩
   split
   ·rename_i hid;rw[if_pos hid] at q;exact ⟨E',e',S',r,x,q⟩
   ·rename_i hid;rw[if_neg hid] at q;exact ⟨E',e',S',r,x,q⟩
 | scope c ih=>
  intro c' Q E e S a w hc hr h hro;simp only[comp] at hc
  cases hx:comp P N c with
  | none=>rw[hx] at hc;cases hc
  | some x'=>
   rw[hx] at hc;cases hc;refine qkL (wpIn_mono (ih x' _ E e S a w hx hr h (hro.imp (fun h=>h) fun h=>by simp[C'.noRf] at h;exact h)) fun ex a' w' hq=>?_);obtain ⟨E',e',S',r,x,q⟩:=hq;cases ex <;> simp only[Exit.noGoto,qfu] at q ⊢<;> exact ⟨E',e',S',r,x,q⟩
 | loop c ih=>
  intro c' Q E e S a w hc hr h hro;simp only[comp] at hc
  cases hx:comp P N c with
  | none=>rw[hx] at hc;cases hc
  | some x'=>
   rw[hx] at hc;cases hc;obtain ⟨I,k,⟨e0,hsub,h0⟩,hround⟩:=h
   let J:Nat→Act→World→Prop:=fun k a' w'=>∃E' e' S',Rel N n0 m0 E' e' S' a' w'∧Ext n0 E S w E' S' w'∧I k e' S'
   refine wpIn_loop (fun a' w'=>∃k,J k a' w') (fun a' w'=>leastOf fun k=>J k a' w') ⟨k,E,e0,S,hr.sub hsub,Ext.refl _ _ _ _,h0⟩ ?_;intro a1 w1 hI;obtain ⟨E1,e1,S1,r1,x1,i1⟩:=(leastOf_spec hI).1;refine wpIn_mono (ih x' _ E1 e1 S1 a1 w1 hx r1 (hround _ e1 S1 i1) (hro.imp (fun h=>h) fun h=>by simp[C'.noRf] at h;exact h)) fun ex a' w' hq=>?_
   obtain ⟨E',e',S',r,x,q⟩:=hq;cases ex
   case normal=>
    obtain ⟨k',hlt,e2,hs2,hi2⟩:=q;have hJ:J k' a' w':=⟨E',e2,S',r.sub hs2,x1.trans x,hi2⟩;exact ⟨⟨k',hJ⟩,Nat.lt_of_le_of_lt ((leastOf_spec ⟨k',hJ⟩).2 k' hJ) hlt⟩
   all_goals exact ⟨E',e',S',r,x1.trans x,q⟩
 | exit id=>
  intro c' Q E e S a w hc hr h hro;simp only[comp] at hc;cases hc;exact wpIn_exit ⟨E,e,S,hr,Ext.refl _ _ _ _,h⟩
 | ret=>
  intro c' Q E e S a w hc hr h hro;simp only[comp] at hc;cases hc;exact wpIn_ret ⟨E,e,S,hr,Ext.refl _ _ _ _,h⟩
 | rangeFunc f ps asg body iha ihb=>
  intro c' Q E e S a w hc hr h hro;simp only[comp] at hc;split at hc
  case h_2=>cases hc;exact h.elim
  rename_i g ca cb hg hca hcb;split at hc
  case isFalse=>cases hc;exact h.elim
  cases hc;rename_i hst;have hro':ro=none:=hro.resolve_right (by simp[C'.noRf]);subst hro';exact qov hg (fun _=>h hca hcb) hr
 | _=>intro c' Q E e S a w hc hr h hro;simp only[comp,Option.some.injEq] at hc;subst hc;exact h.elim
inductive RV where
 | t (t:Nat)
 | cell (t:Nat) (k:Option Nat)
 deriving Inhabited
structure F' where
 N:Nat
 rs:List RV
 body:C'
 deriving Inhabited
def qfz(P:Program):ResultVar→Option RV
 | .tmp t=>some (.t t)
 | .cell a t=>(qa1 P t).map (.cell a)
def qeT(P:Program)(fn:Func):Option F':=
 match fn.body,fn.results.toList.mapM (qfz P) with
 | some c, some rs => if fn.name = "runtime.NumGoroutine" then none else (comp P fn.ntmps c).map fun c' => ⟨fn.ntmps, rs, c'⟩
 | _,_=>none
def rvs(e:Env)(S:St):List RV→Option (List V)
 | []=>some []
 | .t t::rs=>match e.get t,rvs e S rs with
  | some v,some vs=>some (v::vs)
  | _,_=>none
 | .cell t k::rs=>match e.get t,rvs e S rs with
  | some p,some vs=>(ldS S p k).map fun v=>v::vs
  | _,_=>none
def retV:List V→V
 | [v]=>v
 | vs=>.tup vs
def qaX(n:Nat)(r:V)(S:St)(r':V)(S':St):Prop:=
 ∀(E:En) (w:World) (u:Value),SR E S w→VR E r u→n≤S.length→∃E',VR E' r' u∧SR E' S' w∧Ext n E S w E' S' w∧n≤S'.length
theorem qaX.refl(n:Nat)(r:V)(S:St):qaX n r S r S:=fun E w u hs hr hn=>⟨E,hr,hs,Ext.refl _ _ _ _,hn⟩
theorem qaX.trans{n:Nat}{r r1 r2:V}{S S1 S2:St}(h:qaX n r S r1 S1)(g:qaX n r1 S1 r2 S2):qaX n r S r2 S2:=fun E w u hs hr hn=>by
 obtain ⟨E1,a1,a2,a3,a4⟩:=h E w u hs hr hn;obtain ⟨E2,b1,b2,b3,b4⟩:=g E1 w u a2 a1 a4;exact ⟨E2,b1,b2,a3.trans b3,b4⟩
theorem qaX.cut{n m:Nat}{r:V}{S:St}(hr:r.under m=true)(hS:∀o,o∈S.take m→o.under m=true)(hn:n≤m)(hm:m≤S.length):qaX n r S r (S.take m):=fun E w u hs hv hn'=>by
 obtain ⟨h1,h2⟩:=hs.cut hS hm;exact ⟨E.cut m,hv.cut hr,h1,h2 n hn,by simp;omega⟩
theorem qaX.freeze{n l off len st sz wr:Nat}{S:St}{xs:List V}(ho:S[l]?=some (.arr xs sz wr))(hw:wr≤st)(hle:off+len≤st):qaX n (.arr l off len st) S (.sl false ((xs.drop off).take len)) (S.set l .dead):=fun E w u hs hv hn=>by
 obtain ⟨E',h1,h2,_,h3⟩:=hs.freeze ho hw hv hle;exact ⟨E',h3,h1,h2 n,by simpa using hn⟩
def endp(rs:List RV)(n:Nat)(R:V→St→Prop):Post
 | .normal,e,S|.ret,e,S=>∃vs,rvs e S rs=some vs∧∃r' S',qaX n (retV vs) S r' S'∧R r' S'
 | _,_,_=>False
def qbr:Nat→List V→Env
 | _,[]=>[]
 | k,v::vs=>(k,v)::qbr (k+1) vs
theorem qej:∀(vs:List V) (k t:Nat) (v:V),(qbr k vs).get t=some v→k≤t∧vs[t - k]?=some v
 | [],k,t,v,h=>by simp[qbr,Env.get] at h
 | x::vs,k,t,v,h=>by
  simp only[qbr,Env.get] at h;split at h
  ·rename_i hk;subst hk;cases h;simp
  ·obtain ⟨h1,h2⟩:=qej vs (k+1) t v h;refine ⟨by omega,?_⟩;obtain ⟨d,rfl⟩:∃d,t=k+1+d:=⟨t - (k+1),by omega⟩;rw[show k+1+d - (k+1)=d by omega] at h2;rw[show k+1+d - k=d+1 by omega,qu0];exact h2
def rdRV(tmps:Array Value):ResultVar→Sem Value
 | .tmp t=>Pure.pure (tmps.getD t undef)
 | .cell a t=>do loadVar t (←asAddr (tmps.getD a undef))
theorem qm2{P:Program}{E:En}{e:Env}{S:St}{w:World}{tmps:Array Value}(ht:Tmps E e tmps)(hs:SR E S w):∀(l:List ResultVar) (rs:List RV) (vs:List V),l.mapM (qfz P)=some rs→rvs e S rs=some vs→
  ∃us:List Value,us.length=vs.length∧(∀(i:Nat) (v:V) (u:Value),vs[i]?=some v→us[i]?=some u→VR E v u)∧
   ∀acc:Array Value,(l.foldlM (fun (acc:Array Value) r=>do let b ←rdRV tmps r;Pure.pure (acc.push b)) acc:Sem (Array Value)).run P w=.ok (acc++us.toArray) w
 | [],rs,vs,h1,h2=>by
  simp at h1;subst h1;simp only[rvs] at h2;cases h2;exact ⟨[],rfl,fun i v u h=>by simp at h,fun acc=>by simp⟩
 | r::l,rs,vs,h1,h2=>by
  simp only[qu9,quP] at h1
  cases hc:qfz P r with
  | none=>rw[hc] at h1;simp at h1
  | some r'=>
   rw[hc] at h1
   cases hl:l.mapM (qfz P) with
   | none=>rw[hl] at h1;simp at h1
   | some rs'=>
    rw[hl] at h1;simp at h1;subst h1
    have one:∃v vs' u,vs=v::vs'∧rvs e S rs'=some vs'∧VR E v u∧(rdRV tmps r).run P w=.ok u w:=by
     cases r with
     | tmp t=>
      simp only[qfz] at hc;cases hc;simp only[rvs] at h2;split at h2 <;> cases h2;rename_i v vs' hv hvs;obtain ⟨u,hu,hr⟩:=ht _ _ hv;exact ⟨v,vs',u,rfl,hvs,hr,by simp[rdRV,hu]⟩
     | cell a t=>
      simp only[qfz] at hc
      cases hk:qa1 P t with
      | none=>rw[hk] at hc;cases hc
      | some k=>
       rw[hk] at hc;cases hc;simp only[rvs] at h2;split at h2 <;> try cases h2
       rename_i p vs' hv hvs
       cases hd:ldS S p k with
       | none=>rw[hd] at h2;cases h2
       | some v=>
        rw[hd] at h2;cases h2;obtain ⟨u,hu,hr⟩:=ht _ _ hv;obtain ⟨d,h3,h4⟩:=qje (P:=P) hs hr hk hd;refine ⟨v,vs',d,rfl,hvs,h4,?_⟩;have hg:tmps.getD a undef=u:=by simp[hu]
        simp only[rdRV,hg];cases hr <;> simp[ldS] at hd <;> simpa[Instr.loadAt,Instr.sureAddr,asAddr,Result.andThen] using h3
    obtain ⟨v,vs',u,rfl,hvs,hr,hrun⟩:=one;obtain ⟨us,i1,i2,i3⟩:=qm2 ht hs l rs' vs' hl hvs;refine ⟨u::us,by simp[i1],fun i v' u' h h'=>?_,fun acc=>?_⟩
    ·cases i with
     | zero=>simp at h h';subst h;subst h';exact hr
     | succ i=>exact i2 i v' u' (by simpa using h) (by simpa using h')
    ·simp only[List.foldlM_cons,Sem.run_bind,hrun,Result.andThen,Sem.run_pure];rw[i3];simp
theorem qh3{P:Program}{E:En}{e:Env}{S:St}{w:World}{tmps:Array Value}{fn:Func}{rs:List RV}{vs:List V}(ht:Tmps E e tmps)(hs:SR E S w)(hc:fn.results.toList.mapM (qfz P)=some rs)(h:rvs e S rs=some vs):
  ∃u,(results fn tmps).run P w=.ok u w∧VR E (retV vs) u:=by
 obtain ⟨us,i1,i2,i3⟩:=qm2 (P:=P) ht hs fn.results.toList rs vs hc h
 have hm:(fn.results.mapM (rdRV tmps)).run P w=.ok us.toArray w:=by
  rw[Array.mapM_eq_foldlM_push,←Array.foldlM_toList,i3];simp
 refine ⟨if h:us.toArray.size=1 then us.toArray[0] else .tuple us.toArray,?_,?_⟩
 ·have hres:results fn tmps=(do let vs ←fn.results.mapM (rdRV tmps);Pure.pure (if h:vs.size=1 then vs[0] else .tuple vs)):=by
   unfold results;congr 1
  rw[hres];simp only[Sem.run_bind,hm,Result.andThen,Sem.run_pure]
 ·by_cases h1:us.length=1
  ·match us,vs,h1,i1 with
   | [u],[v],_,_=>simpa[retV] using i2 0 v u rfl rfl
  ·rw[dif_neg (by simpa using h1)]
   have:retV vs=.tup vs:=by
    match vs,i1 with
    | [],_=>rfl
    | [v],h=>simp at h;exact absurd h h1
    | _::_::_,_=>rfl
   rw[this];exact .tup (by simp[i1]) (fun i v u hv hu=>i2 i v u hv (by simpa using hu))
def Same(m:Nat)(w w':World):Prop:=w'.heap.size=w.heap.size∧(∀b,b<m→w'.heap[b]?=w.heap[b]?)∧(w'.output,w'.os)=(w.output,w.os)
theorem Ext.same{n:Nat}{E E':En}{S S':St}{w w' w'':World}(h:Ext n E S w E' S' w')(g:Same w.heap.size w' w''):Ext n E S w E' S' w'':=
 { h with size:=by rw[g.1];exact h.size,frame:=fun b hb hn=>(g.2.1 b hb).trans (h.frame b hb hn),out:=g.2.2.trans h.out }
theorem SR.shut{E:En}{S:St}{w:World}(h:SR E S w){r:Nat}{ds:Option (List Deferred)}{o:Obj}(hr:w.heap[r]?=some (.deferred ds))(hno:¬ own E S r):SR E S { w with heap:=w.heap.setIfInBounds r o }:=by
 have hlt:r<w.heap.size:=(quc.1 hr).1
 have other:∀b,b≠r→({ w with heap:=w.heap.setIfInBounds r o }:World).heap[b]?=w.heap[b]?:=fun b hb=>by
  show (w.heap.setIfInBounds r o)[b]?=_;rw[quq (Ne.symm hb)]
 refine ⟨h.gl.old (fun _ _ _ h=>h) (fun b _ _ _ hb _=>other b fun he=>by subst he;rw[hr] at hb;cases hb),fun b o' c hc=>?_,fun l ob hl=>?_,h.dom,h.apart,fun b hb=>?_,h.inj⟩
 ·have h1:=h.I b o' c hc
  have hne:b≠r:=by
   rintro rfl;unfold World.cell? at h1;simp[hr] at h1
  rw[cell?_heap (other b hne)];exact h1
 ·by_cases hd:ob=.dead
  ·subst hd;trivial
  exact (h.obs l ob hl).mono (En.le_refl E) (fun _ _ hx=>hx) fun st x hx=>other _ fun he=>hno ⟨l,st,x,⟨ob,hl,hd⟩,hx,he⟩
 ·show b<(w.heap.setIfInBounds r o).size;simp;exact h.lt b hb
theorem qfM{P:Program}{n m:Nat}{fn:Func}{tmps:Array Value}{R:Ending→World→Prop}{E:En}{S:St}:∀{ds:List Deferred} {w:World},SR E S w→qdE m E S w ds→
  (∀w',SR E S w'→Same m w w'→∃v,(results fn tmps).run P w'=.ok v w'∧R (.returned v) w')→LeavesInM Fence.wide n P fn tmps R ds .returning w
 | [],w,hs,_,h=>h w hs ⟨rfl,fun _ _=>rfl,rfl⟩
 | d::ds,w,hs,⟨⟨r,h1,h2,h3,h4,h5⟩,hd⟩,h=>by
  refine ⟨by simp,.inl ⟨r,_,h1,run_takeDeferred h3,?_⟩⟩;have hs':=hs.shut (o:=.deferred none) h3 h4;refine qfM (m:=m) hs' ?_ fun w' hs'' hsame=>h w' hs'' ?_
  ·have hne:∀b,b≠r→({ w with heap:=w.heap.setIfInBounds r (.deferred none) }:World).heap[b]?=w.heap[b]?:=fun b hb=>by
    show (w.heap.setIfInBounds r _)[b]?=_;rw[quq (Ne.symm hb)]
   have:∀(l:List Deferred),(∀d',d'∈l→d'.target≠.collected r)→qdE m E S w l→qdE m E S { w with heap:=w.heap.setIfInBounds r (.deferred none) } l:=by
    intro l
    induction l with
    | nil=>intro _ _;trivial
    | cons d' l ih=>
     rintro hne' ⟨⟨r',k1,k2,k3,k4,k5⟩,hl⟩;have hrr:r'≠r:=fun he=>hne' d' (by simp) (by rw[k1,he])
     exact ⟨⟨r',k1,k2,(hne r' hrr).trans k3,k4,k5⟩,ih (fun d'' hd''=>hne' d'' (by simp[hd''])) hl⟩
   exact this ds h5 hd
  ·refine ⟨hsame.1.trans (by simp),fun b hb=>(hsame.2.1 b hb).trans ?_,hsame.2.2⟩;show (w.heap.setIfInBounds r _)[b]?=_;rw[quq (by omega)]
theorem Spec.intro{P:Program}{f:FuncId}{fn:Func}{f':F'}{args:List V}{S:St}{R:V→St→Prop}(hf:P.funcs[f]?=some fn)(hc:qeT P fn=some f')(ha:args.length≤f'.N)
  (h:WP P f'.body (endp f'.rs S.length R) (qbr 0 args) S):Spec P f args S R:=by
 unfold qeT at hc;split at hc
 ·rename_i c rs hb hrs;split at hc
  ·cases hc
  ·rename_i hname
   cases hx:comp P fn.ntmps c with
   | none=>rw[hx] at hc;cases hc
   | some c'=>
    rw[hx] at hc;cases hc;refine ⟨fun as w=>?_,fun E w us n hs hv=>?_⟩
    ·simp[callFunc,program,Sem.run,Result.andThen,hf,hname,hb]
    ·refine callsIn_of_wp_marks hf hb trivial ?_;simp only at ha h;obtain ⟨v1,v2⟩:=hv
     have hrel:Rel fn.ntmps S.length w.heap.size E (qbr 0 args) S { tmps:=us++Array.replicate (fn.ntmps - us.size) undef,defers:=[] } w:=by
      refine ⟨fun t v ht=>?_,by simp;omega,⟨qt1 _,trivial⟩,qt1 _,hs⟩;obtain ⟨_,h2⟩:=qej args 0 t v ht;simp only[Nat.sub_zero] at h2;have hlt:=(qtV.1 h2).1;have hu:us[t]?=some (us[t]'(by omega)):=by simp
      exact ⟨_,by rw[quS (by omega)];exact hu,v2 t v _ h2 hu⟩
     have hwp:=qgE (ro:=none) (n:=n) c c' _ E _ S _ w hx hrel h (.inl rfl);refine wpIn_mono (show c.wpIn Fence.wide n P _ _ w from hwp) ?_;rintro ex a' w' ⟨E',e',S',r,x,q⟩;cases ex <;> simp only[endp] at q
     all_goals
      obtain ⟨vs,h1,r',S2,hg,hR⟩:=q
      refine qfM r.sr r.defers.2 fun w'' hs'' hsame=>?_
      obtain ⟨u,h3,h4⟩:=qh3 (P:=P) r.tmps hs'' hrs h1
      obtain ⟨E2,g1,g2,g3,g4⟩:=hg E' w'' u hs'' h4 r.base
      exact ⟨u,h3,u,r',E2,S2,rfl,hR,g1,g2,(x.same hsame).trans g3,g4⟩
 ·cases hc
theorem Spec.ib{P:Program}{f:FuncId}{fn:Func}{f':F'}{args:List V}{S:St}{R:V→St→Prop}(hf:P.funcs[f]?=some fn)(hc:qeT P fn=some f')(h:WP P f'.body (endp f'.rs S.length R) (qbr 0 args) S)(ha:Nat.ble args.length f'.N=true:=by rfl):Spec P f args S R:=Spec.intro hf hc (Nat.le_of_ble_eq_true ha) h
def qcE:List Nat→List V→Env→Env
 | p::ps,v::vs,e=>qcE ps vs (e.put (some p) v)
 | _,_,e=>e
theorem qf6{E:En}:∀(ps:List Nat) (vs:List V) (us:List Value) (e:Env) (T:Array Value),Tmps E e T→(∀p,p∈ps→p<T.size)→vs.length=us.length→(∀(i:Nat) (v:V) (u:Value),vs[i]?=some v→us[i]?=some u→VR E v u)→
  Tmps E (qcE ps vs e) ((ps.zip us).foldl (fun T p=>T.setIfInBounds p.1 p.2) T)∧((ps.zip us).foldl (fun T p=>T.setIfInBounds p.1 p.2) T).size=T.size
 | [],vs,us,e,T,h,_,_,_=>by cases vs <;> exact ⟨h,rfl⟩
 | p::ps,[],us,e,T,h,_,hl,_=>by
  have:us=[]:=qur (by simpa using hl.symm);subst this;exact ⟨h,rfl⟩
 | p::ps,v::vs,[],e,T,h,_,hl,_=>by simp at hl
 | p::ps,v::vs,u::us,e,T,h,hp,hl,hv=>by
  have:=qf6 ps vs us (e.put (some p) v) (T.setIfInBounds p u) (h.put (hp p (by simp)) (hv 0 v u rfl rfl)) (fun q hq=>by simp;exact hp q (by simp[hq])) (by simpa using hl) (fun i v' u' h1 h2=>hv (i+1) v' u' (by simpa using h1) (by simpa using h2));simp only[List.zip_cons_cons,qvD,qcE];exact ⟨this.1,by rw[this.2];simp⟩
def qeR(l:Nat)(R:V→St→Prop):Post
 | .normal,_,S=>∃i,S[l]?=some (.loop i)∧R (.bool true) (S.set l (.loop { i with st:=.ready,pend:=none }))
 | .ret,_,S=>∃i,S[l]?=some (.loop i)∧R (.bool false) (S.set l (.loop { i with st:=.done,pend:=some .ret }))
 | .exit id,_,S=>∃i,S[l]?=some (.loop i)∧R (.bool false) (S.set l (.loop { i with st:=.done,pend:=some (.exit id) }))
 | _,_,_=>False
def qhz(P:Program)(l:Nat)(cb:C')(R:V→St→Prop):Post
 | .normal,e,S=>∃i,S[l]?=some (.loop i)∧i.st=.ready∧WP P cb (qeR l R) e (S.set l (.loop { i with st:=.busy }))
 | _,_,_=>False
theorem qbJ.intro{P:Program}{l:Nat}{args:List V}{S:St}{R:V→St→Prop}{i:LI}{ca cb:C'}(hl:S[l]?=some (.loop i))(hca:comp P i.N i.asg=some ca)(hcb:comp P i.N i.body=some cb)(hst:i.st=.ready)
  (na:ca.noRf=true) (nb:cb.noRf=true) (hlen:args.length=i.ps.length) (hps:i.ps.all (fun p=>decide (p<i.N))=true)
  (h:WP P ca (qhz P l cb R) (qcE i.ps args i.e) S):qbJ P l args S R:=by
 intro E w us n x hs hv hx;obtain ⟨x',rc,r1,r2,r3,r4,r5,r6,r7,r8,r9⟩:=hs.obs _ _ hl;rw[hx] at r1;cases r1;obtain ⟨v1,v2⟩:=hv;refine ⟨rc.fn,_,rc.assign,rc.body,run_yield r2 (by rw[←v1,hlen,←r5];simp),?_⟩;simp only[quj,decide_eq_true_eq] at hps;obtain ⟨t1,t2⟩:=qf6 i.ps args us.toList i.e rc.tmps r9 (fun p hp=>by rw[r8];exact hps p hp) (by simpa using v1) (fun j v u h1 h2=>v2 j v u h1 (by simpa using h2))
 have hT:(rc.params.zip us).foldl (fun tmps (t,a)=>tmps.setIfInBounds t a) rc.tmps=(i.ps.zip us.toList).foldl (fun T p=>T.setIfInBounds p.1 p.2) rc.tmps:=by
  rw[←Array.foldl_toList,Array.toList_zip,r5]
 rw[hT];generalize (i.ps.zip us.toList).foldl (fun T p=>T.setIfInBounds p.1 p.2) rc.tmps=T at t1 t2;rw[r6,r7];have hrel:Rel i.N S.length w.heap.size E (qcE i.ps args i.e) S { tmps:=T,defers:=[] } w:=⟨t1,by rw[t2,r8],⟨qt1 _,trivial⟩,qt1 _,hs⟩;have hwp:=qgE (ro:=some x.b) (n:=n) i.asg ca _ E _ S _ w hca hrel h (.inr na);refine roundIn_of_wpIn trivial (wpIn_mono (show i.asg.wpIn (Fence.wide.inRound x.b) n P _ _ w from hwp) ?_);rintro ex a' w' ⟨E',e',S',r,xt,q⟩;cases ex <;> simp only[qhz] at q;obtain ⟨i',hi',hst',hb⟩:=q;obtain ⟨x',rc',q1,q2,q3,q4,q5,q6,q7,q8,q9⟩:=r.sr.obs _ _ hi';have hlt:l<S.length:=(qtV.1 hl).1;have hx':=xt.ρ l 0 _ hlt hx;rw[hx'] at q1;cases q1;refine ⟨_,run_beginRound q2 (by rw[q3];exact hst'),?_⟩;obtain ⟨s1,s2⟩:=r.sr.loopSet (i':={ i' with st:=.busy }) (r':={ rc' with state:=.busy }) hi' hx' q2 rfl q4 q5 q6 q7 q8 q9;have hrel':Rel i.N S.length w.heap.size E' e' (S'.set l (.loop { i' with st:=.busy })) a' (w'.putObj x.b (.loop { rc' with state:=.busy })):=
  ⟨r.tmps,r.size,qeB.step s2 r.defers,by simp;exact r.base,s1⟩
 have hext:Ext S.length E S w E' (S'.set l (.loop { i' with st:=.busy })) (w'.putObj x.b (.loop { rc' with state:=.busy })):=xt.trans (s2.less r.base);have hwp2:=qgE (ro:=some x.b) (n:=n) i.body cb _ E' _ _ _ _ hcb hrel' hb (.inr nb);refine wpIn_mono (show i.body.wpIn (Fence.wide.inRound x.b) n P _ _ _ from hwp2) ?_;rintro ex a2 w2 ⟨E2,e2,S2,r2',xt2,q2'⟩;have hxx:=hext.trans xt2;have hx2:=hxx.ρ l 0 _ hlt hx;have fin:∀(j:Option Code) (i2:LI),S2[l]?=some (.loop i2)→R (.bool j.isNone) (S2.set l (.loop { i2 with st:=if j.isNone then .ready else .done,pend:=j }))→
   ∃v w',(Instr.endRound x.b j).run P w2=.ok v w'∧∃u r E' S',(Ending.returned v)=.returned u∧R r S'∧VR E' r u∧SR E' S' w'∧Ext S.length E S w E' S' w'∧S.length≤S'.length:=by
  intro j i2 hi2 hR;obtain ⟨x',rc2,p1,p2,p3,p4,p5,p6,p7,p8,p9⟩:=r2'.sr.obs _ _ hi2;rw[hx2] at p1;cases p1;obtain ⟨s1,s2⟩:=r2'.sr.loopSet (i':={ i2 with st:=if j.isNone then .ready else .done,pend:=j }) (r':={ rc2 with state:=if j.isNone then .ready else .done,pending:=j }) hi2 hx2 p2 rfl rfl p5 p6 p7 p8 p9;exact ⟨_,_,run_endRound j p2,_,_,E2,_,rfl,hR,.bool _,s1,hxx.trans (s2.less r2'.base),by simp;exact r2'.base⟩
 cases ex <;> simp only[qeR] at q2'
 ·obtain ⟨i2,hi2,hR⟩:=q2';exact fin none i2 hi2 hR
 ·obtain ⟨i2,hi2,hR⟩:=q2';exact fin (some (.exit _)) i2 hi2 hR
 ·obtain ⟨i2,hi2,hR⟩:=q2';exact fin (some .ret) i2 hi2 hR
def rfs:Code→List (Code×Code)
 | .rangeFunc _ _ a b=>[(a,b)]
 | .seq a b|.cond _ a b=>rfs a++rfs b
 | .block _ c|.loop c|.scope c=>rfs c
 | _=>[]
def rfAt(f:Func)(k:Nat):Code×Code:=match f.body with
 | some c=>((rfs c)[k]?).getD (.skip,.skip)
 | none=>(.skip,.skip)
mutual
def V.frz(l:Nat)(xs:List V)(wr:Nat):V→V
 | .arr l' off len st=>if l'=l∧wr≤st∧off+len≤st then .sl false ((xs.drop off).take len) else .arr l' off len st
 | .sl x ys=>.sl x (V.frzL l xs wr ys)
 | .iface t v=>.iface t (V.frz l xs wr v)
 | .agg cs=>.agg (V.frzL l xs wr cs)
 | .tup cs=>.tup (V.frzL l xs wr cs)
 | v=>v
def V.frzL(l:Nat)(xs:List V)(wr:Nat):List V→List V
 | []=>[]
 | v::vs=>V.frz l xs wr v::V.frzL l xs wr vs
end
theorem qcj{l wr:Nat}{xs:List V}:∀(vs:List V),V.frzL l xs wr vs=vs.map (V.frz l xs wr)
 | []=>rfl
 | v::vs=>by simp only[V.frzL,qud,qcj vs]
theorem qhb{l wr:Nat}{xs:List V}(v:V):(v.frz l xs wr).cells=v.cells.map (V.frz l xs wr):=by
 cases v
 case arr l' off len st=>
  show (V.frz l xs wr (.arr l' off len st)).cells=[V.frz l xs wr (.arr l' off len st)];simp only[V.frz];by_cases hc:l'=l∧wr≤st∧off+len≤st
  ·rw[if_pos hc];rfl
  ·rw[if_neg hc];rfl
 all_goals simp only[V.frz,V.cells,qud,qvB,qcj]
theorem SR.freezeV{E:En}{S:St}{w:World}(h:SR E S w){l sz wr:Nat}{xs:List V}(ho:S[l]?=some (.arr xs sz wr)):
  ∃E',SR E' (S.set l .dead) w∧(∀n,Ext n E S w E' (S.set l .dead) w)∧∀v u,VR E v u→VR E' (v.frz l xs wr) u:=by
 obtain ⟨h0,h1,h2⟩:=h.obs l _ ho;have hlive:live S l:=⟨_,ho,by simp⟩
 open Classical in
 let mine:Nat→Prop:=fun b=>∃st x,E.ρ l st=some x∧x.b=b
 open Classical in
 let E':En:={ E with I:=fun b o=>if mine b then w.cell? ⟨b,o,none⟩ else E.I b o }
 have hmo:∀b,mine b→own E S b:=fun b ⟨st,x,hx,hb⟩=>⟨l,st,x,hlive,hx,hb⟩
 have hle':E.le E':=⟨fun b o c hc=>by
  simp only[E'];split
  ·rename_i hm;rw[h.apart b o (hmo b hm)] at hc;cases hc
  ·exact hc,fun _ _ _ h=>h⟩
 have hρ:E'.ρ=E.ρ:=rfl
 have hnot:∀b,own E' (S.set l .dead) b→own E S b∧¬ mine b:=by
  rintro b ⟨l',st,x,hl',hx,rfl⟩;rw[hρ] at hx
  have hne:l'≠l:=by
   rintro rfl;obtain ⟨o,ho',hd⟩:=hl';rw[qtZ (qev hlive)] at ho';cases ho';exact hd rfl
  have hlv:live S l':=qci hl' hlive;refine ⟨⟨l',st,x,hlv,hx,rfl⟩,?_⟩;rintro ⟨st',y,hy,he⟩;exact hne (h.inj l' l st st' x y hlv hlive hx hy he.symm)
 refine ⟨E',⟨h.gl.old hle'.1 (fun _ _ _ _ _ _=>rfl),?_,?_,?_,?_,?_,?_⟩,fun n=>⟨qt1 _,hle'.1,fun l st x _ hx=>hx,fun _ _ hx=>hx,fun b hb=>.inl (hnot b hb).1,?_,fun _ _ _=>rfl,rfl⟩,?_⟩
 ·intro b o c hc;simp only[E'] at hc;split at hc
  ·exact hc
  ·exact h.I b o c hc
 ·intro l' o' hl';by_cases hk:l'=l
  ·subst hk;rw[qtZ (qev hlive)] at hl';cases hl';trivial
  ·rw[qtY (Ne.symm hk)] at hl';exact (h.obs l' o' hl').mono hle' (fun _ _ hx=>hx) (fun _ _ _=>rfl)
 ·intro l' st' x' hx';simpa using h.dom l' st' x' hx'
 ·intro b o hb;obtain ⟨hb1,hb2⟩:=hnot b hb;simp only[E'];rw[if_neg hb2];exact h.apart b o hb1
 ·intro b hb;exact h.lt b (hnot b hb).1
 ·intro l1 l2 st1 st2 x1 x2 hl1 hl2 hx1 hx2 he;exact h.inj l1 l2 st1 st2 x1 x2 (qci hl1 hlive) (qci hl2 hlive) hx1 hx2 he
 ·intro b o c hc;simp only[E'] at hc;split at hc
  ·rename_i hm;exact .inr (.inl (hmo b hm))
  ·exact .inl hc
 ·intro v u hv
  induction hv with
  | top u=>exact .top u
  | bool b=>exact .bool b
  | int k n=>exact .int k n
  | str s=>exact .str s
  | nilp=>exact .nilp
  | ptr i off hr=>exact VR.ptr (E:=E') i off hr
  | iptr off hI hv _=>exact (VR.iptr off hI hv).mono hle'
  | glob g off=>exact .glob g off
  | slnil x=>exact .slnil x
  | slz x a=>exact .slz x a
  | sl hc hx hs hI hv ih=>
   rename_i x ys b o cap sz';simp only[V.frz,qcj];have hlen:(ys.map (V.frz l xs wr)).length=ys.length:=by simp
   have hcl:∀v:V,(v.frz l xs wr).cells.length=v.cells.length:=fun v=>by rw[qhb];simp
   have:=VR.sl (E:=E') (x:=x) (xs:=ys.map (V.frz l xs wr)) (b:=b) (o:=o) (cap:=cap) (sz:=sz') (by rw[hlen];exact hc) (fun he=>by rw[hlen];exact hx he)
    (fun v hv=>by
     rw[qul] at hv;obtain ⟨v0,hv0,rfl⟩:=hv;rw[hcl];exact hs v0 hv0)
    (fun i j hi hj=>qdN hle' (hI i j (by rw[←hlen];exact hi) hj))
    (fun i v j c' c hv hcc hi=>by
     rw[quf,qt4] at hv;obtain ⟨v0,hv0,rfl⟩:=hv;rw[qhb,quf,qt4] at hcc;obtain ⟨c0,hc0,rfl⟩:=hcc;have h1:=(qtV.1 hv0).1;have h2:=(qtV.1 hc0).1;rw[hs v0 (qt6 hv0)] at h2;exact ih i v0 j c0 c hv0 hc0 (qnu hle' (hI i j h1 h2) hi))
   rw[hlen] at this;exact this
  | arr hr hN hc=>
   rename_i l' off len cap st x;simp only[V.frz];split
   ·rename_i hk;obtain ⟨rfl,hwr,hle⟩:=hk;obtain ⟨g1,g2,C,t,g3,g4,g5,g6⟩:=h2 st x hr hwr;have hm:mine x.b:=⟨st,x,hr,rfl⟩;have hlen:((xs.drop off).take len).length=len:=by simp;omega
    have hget:∀(i:Nat) (v:V),((xs.drop off).take len)[i]?=some v→xs[off+i]?=some v∧i<len:=fun i v hv=>by
     have hi:=(qtV.1 hv).1;rw[hlen] at hi;rw[quv hi,quH] at hv;exact ⟨hv,hi⟩
    have hmem:∀v,v∈(xs.drop off).take len→v.cells.length=x.sz:=fun v hv=>by rw[g2];exact h1 v (List.mem_of_mem_drop (qvI hv))
    have hcell:∀(i j:Nat) (v c':V),xs[off+i]?=some v→off+i<st→v.cells[j]?=some c'→∃c,E'.I x.b (off * x.sz+i * x.sz+j)=some c∧VR E c' c:=by
     intro i j v c' hv hi hc';obtain ⟨c,hc1,hc2⟩:=g6 (off+i) v hv hi j c' hc';refine ⟨c,?_,hc2⟩;simp only[E'];rw[if_pos hm,cell?_of g3,show off * x.sz+i * x.sz+j=(off+i) * x.sz+j by rw[quK]];exact hc1
    have:=VR.sl (E:=E') (x:=false) (xs:=(xs.drop off).take len) (b:=x.b) (o:=off * x.sz) (cap:=cap) (sz:=x.sz) (by rw[hlen];exact hc) (fun h=>by cases h) hmem
     (fun i j hi hj=>by
      rw[hlen] at hi;have hx:xs[off+i]?=some (xs[off+i]'(by omega)):=by simp
      have hcl:(xs[off+i]'(by omega)).cells.length=x.sz:=by rw[g2];exact h1 _ (qt7 _)
      obtain ⟨c,hc1,_⟩:=hcell i j _ ((xs[off+i]'(by omega)).cells[j]'(by omega)) hx (by omega) (by simp);rw[hc1];rfl)
     (fun i v j c' c hv hcc hi=>by
      obtain ⟨hv',hi'⟩:=hget i v hv;obtain ⟨d,hd1,hd2⟩:=hcell i j v c' hv' (by omega) hcc;rw[hd1] at hi;cases hi;exact hd2.mono hle')
    rw[hlen] at this;exact this
   ·exact VR.arr (E:=E') hr hN hc
  | nilmap=>exact .nilmap
  | map hr=>exact VR.map (E:=E') hr
  | fn h1 h2 g1 g2 _ _=>exact (VR.fn h1 h2 g1 g2).mono hle'
  | nilfn=>exact .nilfn
  | iface t _ ih=>exact .iface t ih
  | niliface=>exact .niliface
  | yld hr=>exact VR.yld (E:=E') hr
  | agg hl g ih=>
   simp only[V.frz,qcj];refine .agg (by simpa using hl) fun i v u hv hu=>?_
   rw[quf,qt4] at hv;obtain ⟨v0,hv0,rfl⟩:=hv;exact ih i v0 u hv0 hu
  | tup hl g ih=>
   simp only[V.frz,qcj];refine .tup (by simpa using hl) fun i v u hv hu=>?_
   rw[quf,qt4] at hv;obtain ⟨v0,hv0,rfl⟩:=hv;exact ih i v0 u hv0 hu
theorem qaX.freezeV{n l sz wr:Nat}{r:V}{S:St}{xs:List V}(ho:S[l]?=some (.arr xs sz wr)):qaX n r S (r.frz l xs wr) (S.set l .dead):=fun E w u hs hv hn=>by
 obtain ⟨E',h1,h2,h3⟩:=hs.freezeV ho;exact ⟨E',h3 _ _ hv,h1,h2 n,by simpa using hn⟩
def V.arrs:Nat→V→List Nat
 | 0,_=>[]
 | n+1,v=>match v with
  | .arr l _ _ _=>[l]
  | .sl _ ys=>ys.flatMap (V.arrs n)
  | .iface _ v=>V.arrs n v
  | .agg cs=>cs.flatMap (V.arrs n)
  | .tup cs=>cs.flatMap (V.arrs n)
  | _=>[]
mutual
def V.same:V→V→Bool
 | .bool a,.bool b=>a==b
 | .int k a,.int k' b=>k==k' && a==b
 | .str a,.str b=>a.data.toList==b.data.toList
 | .nilp,.nilp=>true
 | .ptr a b c d,.ptr a' b' c' d'=>a==a' && b==b' && c==c' && d==d'
 | .glob a b,.glob a' b'=>a==a' && b==b'
 | .sl x xs,.sl y ys=>x==y && V.sames xs ys
 | .arr a b c d,.arr a' b' c' d'=>a==a' && b==b' && c==c' && d==d'
 | .nilmap,.nilmap=>true
 | .map l,.map l'=>l==l'
 | .nilfn,.nilfn=>true
 | .niliface,.niliface=>true
 | .iptr v o,.iptr v' o'=>V.same v v' && o==o'
 | .agg xs,.agg ys=>V.sames xs ys
 | .tup xs,.tup ys=>V.sames xs ys
 | _,_=>false
def V.sames:List V→List V→Bool
 | [],[]=>true
 | x::xs,y::ys=>V.same x y && V.sames xs ys
 | _,_=>false
end
theorem qg4{a b:ByteArray}(h:(a.data.toList==b.data.toList)=true):a=b:=by
 obtain ⟨x⟩:=a;obtain ⟨y⟩:=b;simp at h;rw[h]
mutual
theorem qdb:∀(a b:V),V.same a b=true→a=b
 | .bool a,.bool b,h=>by simp only[V.same,beq_iff_eq] at h;rw[h]
 | .int k a,.int k' b,h=>by simp only[V.same,qt3,beq_iff_eq] at h;rw[h.1,h.2]
 | .str a,.str b,h=>by simp only[V.same] at h;rw[qg4 h]
 | .nilp,.nilp,_=>rfl
 | .glob a b,.glob a' b',h=>by simp only[V.same,qt3,beq_iff_eq] at h;obtain ⟨rfl,rfl⟩:=h;rfl
 | .ptr a b c d,.ptr a' b' c' d',h=>by simp only[V.same,qt3,beq_iff_eq] at h;obtain ⟨⟨⟨rfl,rfl⟩,rfl⟩,rfl⟩:=h;rfl
 | .sl x xs,.sl y ys,h=>by simp only[V.same,qt3,beq_iff_eq] at h;rw[h.1,qcI xs ys h.2]
 | .arr a b c d,.arr a' b' c' d',h=>by simp only[V.same,qt3,beq_iff_eq] at h;obtain ⟨⟨⟨rfl,rfl⟩,rfl⟩,rfl⟩:=h;rfl
 | .nilmap,.nilmap,_=>rfl
 | .map l,.map l',h=>by simp only[V.same,beq_iff_eq] at h;rw[h]
 | .nilfn,.nilfn,_=>rfl
 | .niliface,.niliface,_=>rfl
 | .iptr v o,.iptr v' o',h=>by simp only[V.same,qt3,beq_iff_eq] at h;rw[qdb v v' h.1,h.2]
 | .agg xs,.agg ys,h=>by simp only[V.same] at h;rw[qcI xs ys h]
 | .tup xs,.tup ys,h=>by simp only[V.same] at h;rw[qcI xs ys h]
 | .top,b,h=>by cases b <;> simp[V.same] at h
 | .fn _ _ _,b,h=>by cases b <;> simp[V.same] at h
 | .iface _ _,b,h=>by cases b <;> simp[V.same] at h
 | .yld _,b,h=>by cases b <;> simp[V.same] at h
 | .glob ..,.top,h|.glob ..,.bool _,h|.glob ..,.int _ _,h|.glob ..,.str _,h|.glob ..,.nilp,h|.glob ..,.ptr ..,h|.glob ..,.iptr ..,h|.glob ..,.sl ..,h|.glob ..,.arr ..,h|.glob ..,.nilmap,h|.glob ..,.map _,h|.glob ..,.fn ..,h|.glob ..,.nilfn,h|.glob ..,.iface ..,h|.glob ..,.niliface,h|.glob ..,.yld _,h|.glob ..,.agg _,h|.glob ..,.tup _,h=>by simp[V.same] at h
 | .bool _,.top,h|.bool _,.int _ _,h|.bool _,.str _,h|.bool _,.nilp,h|.bool _,.ptr ..,h|.bool _,.iptr ..,h|.bool _,.sl ..,h|.bool _,.arr ..,h|.bool _,.nilmap,h|.bool _,.map _,h|.bool _,.fn ..,h|.bool _,.nilfn,h|.bool _,.iface ..,h|.bool _,.niliface,h|.bool _,.yld _,h|.bool _,.agg _,h|.bool _,.tup _,h|.bool _,.glob ..,h=>by simp[V.same] at h
 | .int _ _,.top,h|.int _ _,.bool _,h|.int _ _,.str _,h|.int _ _,.nilp,h|.int _ _,.ptr ..,h|.int _ _,.iptr ..,h|.int _ _,.sl ..,h|.int _ _,.arr ..,h|.int _ _,.nilmap,h|.int _ _,.map _,h|.int _ _,.fn ..,h|.int _ _,.nilfn,h|.int _ _,.iface ..,h|.int _ _,.niliface,h|.int _ _,.yld _,h|.int _ _,.agg _,h|.int _ _,.tup _,h|.int _ _,.glob ..,h=>by simp[V.same] at h
 | .str _,.top,h|.str _,.bool _,h|.str _,.int _ _,h|.str _,.nilp,h|.str _,.ptr ..,h|.str _,.iptr ..,h|.str _,.sl ..,h|.str _,.arr ..,h|.str _,.nilmap,h|.str _,.map _,h|.str _,.fn ..,h|.str _,.nilfn,h|.str _,.iface ..,h|.str _,.niliface,h|.str _,.yld _,h|.str _,.agg _,h|.str _,.tup _,h|.str _,.glob ..,h=>by simp[V.same] at h
 | .nilp,.top,h|.nilp,.bool _,h|.nilp,.int _ _,h|.nilp,.str _,h|.nilp,.ptr ..,h|.nilp,.iptr ..,h|.nilp,.sl ..,h|.nilp,.arr ..,h|.nilp,.nilmap,h|.nilp,.map _,h|.nilp,.fn ..,h|.nilp,.nilfn,h|.nilp,.iface ..,h|.nilp,.niliface,h|.nilp,.yld _,h|.nilp,.agg _,h|.nilp,.tup _,h|.nilp,.glob ..,h=>by simp[V.same] at h
 | .ptr ..,.top,h|.ptr ..,.bool _,h|.ptr ..,.int _ _,h|.ptr ..,.str _,h|.ptr ..,.nilp,h|.ptr ..,.iptr ..,h|.ptr ..,.sl ..,h|.ptr ..,.arr ..,h|.ptr ..,.nilmap,h|.ptr ..,.map _,h|.ptr ..,.fn ..,h|.ptr ..,.nilfn,h|.ptr ..,.iface ..,h|.ptr ..,.niliface,h|.ptr ..,.yld _,h|.ptr ..,.agg _,h|.ptr ..,.tup _,h|.ptr ..,.glob ..,h=>by simp[V.same] at h
 | .sl ..,.top,h|.sl ..,.bool _,h|.sl ..,.int _ _,h|.sl ..,.str _,h|.sl ..,.nilp,h|.sl ..,.ptr ..,h|.sl ..,.iptr ..,h|.sl ..,.arr ..,h|.sl ..,.nilmap,h|.sl ..,.map _,h|.sl ..,.fn ..,h|.sl ..,.nilfn,h|.sl ..,.iface ..,h|.sl ..,.niliface,h|.sl ..,.yld _,h|.sl ..,.agg _,h|.sl ..,.tup _,h|.sl ..,.glob ..,h=>by simp[V.same] at h
 | .arr ..,.top,h|.arr ..,.bool _,h|.arr ..,.int _ _,h|.arr ..,.str _,h|.arr ..,.nilp,h|.arr ..,.ptr ..,h|.arr ..,.iptr ..,h|.arr ..,.sl ..,h|.arr ..,.nilmap,h|.arr ..,.map _,h|.arr ..,.fn ..,h|.arr ..,.nilfn,h|.arr ..,.iface ..,h|.arr ..,.niliface,h|.arr ..,.yld _,h|.arr ..,.agg _,h|.arr ..,.tup _,h|.arr ..,.glob ..,h=>by simp[V.same] at h
 | .nilmap,.top,h|.nilmap,.bool _,h|.nilmap,.int _ _,h|.nilmap,.str _,h|.nilmap,.nilp,h|.nilmap,.ptr ..,h|.nilmap,.iptr ..,h|.nilmap,.sl ..,h|.nilmap,.arr ..,h|.nilmap,.map _,h|.nilmap,.fn ..,h|.nilmap,.nilfn,h|.nilmap,.iface ..,h|.nilmap,.niliface,h|.nilmap,.yld _,h|.nilmap,.agg _,h|.nilmap,.tup _,h|.nilmap,.glob ..,h=>by simp[V.same] at h
 | .map _,.top,h|.map _,.bool _,h|.map _,.int _ _,h|.map _,.str _,h|.map _,.nilp,h|.map _,.ptr ..,h|.map _,.iptr ..,h|.map _,.sl ..,h|.map _,.arr ..,h|.map _,.nilmap,h|.map _,.fn ..,h|.map _,.nilfn,h|.map _,.iface ..,h|.map _,.niliface,h|.map _,.yld _,h|.map _,.agg _,h|.map _,.tup _,h|.map _,.glob ..,h=>by simp[V.same] at h
 | .nilfn,.top,h|.nilfn,.bool _,h|.nilfn,.int _ _,h|.nilfn,.str _,h|.nilfn,.nilp,h|.nilfn,.ptr ..,h|.nilfn,.iptr ..,h|.nilfn,.sl ..,h|.nilfn,.arr ..,h|.nilfn,.nilmap,h|.nilfn,.map _,h|.nilfn,.fn ..,h|.nilfn,.iface ..,h|.nilfn,.niliface,h|.nilfn,.yld _,h|.nilfn,.agg _,h|.nilfn,.tup _,h|.nilfn,.glob ..,h=>by simp[V.same] at h
 | .niliface,.top,h|.niliface,.bool _,h|.niliface,.int _ _,h|.niliface,.str _,h|.niliface,.nilp,h|.niliface,.ptr ..,h|.niliface,.iptr ..,h|.niliface,.sl ..,h|.niliface,.arr ..,h|.niliface,.nilmap,h|.niliface,.map _,h|.niliface,.fn ..,h|.niliface,.nilfn,h|.niliface,.iface ..,h|.niliface,.yld _,h|.niliface,.agg _,h|.niliface,.tup _,h|.niliface,.glob ..,h=>by simp[V.same] at h
 | .iptr ..,.top,h|.iptr ..,.bool _,h|.iptr ..,.int _ _,h|.iptr ..,.str _,h|.iptr ..,.nilp,h|.iptr ..,.ptr ..,h|.iptr ..,.sl ..,h|.iptr ..,.arr ..,h|.iptr ..,.nilmap,h|.iptr ..,.map _,h|.iptr ..,.fn ..,h|.iptr ..,.nilfn,h|.iptr ..,.iface ..,h|.iptr ..,.niliface,h|.iptr ..,.yld _,h|.iptr ..,.agg _,h|.iptr ..,.tup _,h|.iptr ..,.glob ..,h=>by simp[V.same] at h
 | .agg _,.top,h|.agg _,.bool _,h|.agg _,.int _ _,h|.agg _,.str _,h|.agg _,.nilp,h|.agg _,.ptr ..,h|.agg _,.iptr ..,h|.agg _,.sl ..,h|.agg _,.arr ..,h|.agg _,.nilmap,h|.agg _,.map _,h|.agg _,.fn ..,h|.agg _,.nilfn,h|.agg _,.iface ..,h|.agg _,.niliface,h|.agg _,.yld _,h|.agg _,.tup _,h|.agg _,.glob ..,h=>by simp[V.same] at h
 | .tup _,.top,h|.tup _,.bool _,h|.tup _,.int _ _,h|.tup _,.str _,h|.tup _,.nilp,h|.tup _,.ptr ..,h|.tup _,.iptr ..,h|.tup _,.sl ..,h|.tup _,.arr ..,h|.tup _,.nilmap,h|.tup _,.map _,h|.tup _,.fn ..,h|.tup _,.nilfn,h|.tup _,.iface ..,h|.tup _,.niliface,h|.tup _,.yld _,h|.tup _,.agg _,h|.tup _,.glob ..,h=>by simp[V.same] at h
theorem qcI:∀(a b:List V),V.sames a b=true→a=b
 | [],[],_=>rfl
 | x::xs,y::ys,h=>by simp only[V.sames,qt3] at h;rw[qdb x y h.1,qcI xs ys h.2]
 | [],_::_,h=>by simp[V.sames] at h
 | _::_,[],h=>by simp[V.sames] at h
end
end Go.Proofs.YtbifpocccfkhhaaGreatDoor

namespace Go.Proofs.YtbifpocccfkhhaaGreatDoor
open Go
def nthR{α:Type}(l:List α):Nat→Option α:=List.rec (motive:=fun _=>Nat→Option α) (fun _=>none) (fun x _ ih n=>Nat.rec (some x) (fun m _=>ih m) n) l
theorem qdK{α:Type}:∀(l:List α) (n:Nat),nthR l n=l[n]?
 | [],n=>by simp[nthR]
 | x::xs,0=>rfl
 | x::xs,n+1=>by rw[qu0,←qdK xs n];rfl
def lenR{α:Type}(l:List α):Nat:=List.rec (motive:=fun _=>Nat→Nat) (fun n=>n) (fun _ _ ih n=>ih (Nat.succ n)) l 0
theorem qnz{α:Type}:∀(l:List α) (n:Nat),(List.rec (motive:=fun _=>Nat→Nat) (fun n=>n) (fun _ _ ih n=>ih (Nat.succ n)) l n:Nat)=l.length+n
 | [],n=>by simp
 | x::xs,n=>by
  show (List.rec (motive:=fun _=>Nat→Nat) (fun n=>n) (fun _ _ ih n=>ih (Nat.succ n)) xs (Nat.succ n):Nat)=_;rw[qnz xs];simp;omega
theorem qbC{α:Type}(l:List α):lenR l=l.length:=by unfold lenR;rw[qnz];rfl
def setR{α:Type}(x:α)(l:List α):Nat→List α:=List.rec (motive:=fun _=>Nat→List α) (fun _=>[]) (fun y ys ih n=>Nat.rec (x::ys) (fun m _=>y::ih m) n) l
theorem qiA{α:Type}(x:α):∀(l:List α) (n:Nat),setR x l n=l.set n x
 | [],n=>by simp[setR]
 | y::ys,0=>rfl
 | y::ys,n+1=>by rw[List.set_cons_succ,←qiA x ys n];rfl
def appR{α:Type}(l m:List α):List α:=List.rec m (fun x _ ih=>x::ih) l
theorem qbg{α:Type}:∀(l m:List α),appR l m=l++m
 | [],m=>rfl
 | x::xs,m=>by rw[qt8,←qbg xs m];rfl
def qgO{α:Type}(l:List α):Nat→List α:=List.rec (motive:=fun _=>Nat→List α) (fun _=>[]) (fun y _ ih n=>Nat.rec [] (fun m _=>y::ih m) n) l
theorem qcO{α:Type}:∀(l:List α) (n:Nat),qgO l n=l.take n
 | [],n=>by simp[qgO]
 | y::ys,0=>rfl
 | y::ys,n+1=>by rw[List.take_succ_cons,←qcO ys n];rfl
def qgT{α:Type}(l:List α):Nat→List α:=List.rec (motive:=fun _=>Nat→List α) (fun _=>[]) (fun y ys ih n=>Nat.rec (y::ys) (fun m _=>ih m) n) l
theorem qc0{α:Type}:∀(l:List α) (n:Nat),qgT l n=l.drop n
 | [],n=>by simp[qgT]
 | y::ys,0=>rfl
 | y::ys,n+1=>by rw[List.drop_succ_cons,←qc0 ys n];rfl
def andR(a b:Bool):Bool:=Bool.rec false b a
theorem qek(a b:Bool):andR a b=(a && b):=by cases a <;> rfl
def iteR{α:Type}(c:Bool)(a b:α):α:=Bool.rec b a c
theorem qaZ{α:Type}(c:Bool)(a b:α):iteR c a b=if c=true then a else b:=by cases c <;> rfl
def allR{α:Type}(f:α→Bool)(l:List α):Bool:=List.rec true (fun x _ ih=>Bool.rec false ih (f x)) l
theorem qdc{α:Type}(f:α→Bool):∀(l:List α),allR f l=l.all f
 | []=>rfl
 | x::xs=>by
  rw[List.all_cons,←qdc f xs];show (Bool.rec false (allR f xs) (f x):Bool)=_;cases f x <;> rfl
def qh5(f:Nat):Nat→List Bool:=Nat.rec (motive:=fun _=>Nat→List Bool) (fun _=>[]) (fun _ ih n=>Nat.rec [] (fun m _=>Nat.beq (Nat.mod m 2) 1::ih (Nat.div m 2)) n) f
def path(n:Nat):List Bool:=qh5 n n
theorem qhg:∀(f g n m:Nat),n≤f→m≤g→qh5 f n=qh5 g m→n=m
 | f,g,0,0,_,_,_=>rfl
 | f,g+1,0,m+1,_,_,h=>by
  have h1:qh5 f 0=[]:=by cases f <;> rfl
  rw[h1] at h;exact absurd h (by show []≠_::_;simp)
 | f+1,g,n+1,0,_,_,h=>by
  have h1:qh5 g 0=[]:=by cases g <;> rfl
  rw[h1] at h;exact absurd h (by show _::_≠[];simp)
 | f+1,g+1,n+1,m+1,hn,hm,h=>by
  have h':(Nat.beq (Nat.mod n 2) 1::qh5 f (Nat.div n 2))=(Nat.beq (Nat.mod m 2) 1::qh5 g (Nat.div m 2)):=h;simp only[List.cons.injEq] at h';obtain ⟨h1,h2⟩:=h';have h3:n / 2=m / 2:=qhg f g (n / 2) (m / 2) (by omega) (by omega) h2
  have h4:(n % 2=1↔m % 2=1):=by
   have:(Nat.beq (n % 2) 1=true↔Nat.beq (m % 2) 1=true):=by
    show (Nat.beq (Nat.mod n 2) 1=true↔Nat.beq (Nat.mod m 2) 1=true);rw[h1]
   simpa using this
  omega
theorem qd9{n m:Nat}(h:path n=path m):n=m:=qhg n m n m (qt1 _) (qt1 _) h
inductive Tx(α:Type) where
 | nil
 | node (v:Option α) (l r:Tx α)
def Tx.get{α:Type}(p:List Bool):Tx α→Option α:=List.rec (motive:=fun _=>Tx α→Option α) (fun t=>Tx.rec none (fun v _ _ _ _=>v) t) (fun b _ ih t=>Tx.rec none (fun _ l r _ _=>ih (Bool.rec l r b)) t) p
def Tx.put{α:Type}(x:α)(p:List Bool):Tx α→Tx α:=List.rec (motive:=fun _=>Tx α→Tx α) (fun t=>Tx.rec (.node (some x) .nil .nil) (fun _ l r _ _=>.node (some x) l r) t)
 (fun b _ ih t=>Tx.rec (Bool.rec (.node none (ih .nil) .nil) (.node none .nil (ih .nil)) b) (fun v l r _ _=>Bool.rec (.node v (ih l) r) (.node v l (ih r)) b) t) p
theorem Tx.get_put_same{α:Type}(x:α):∀(p:List Bool) (t:Tx α),(Tx.put x p t).get p=some x
 | [],t=>by cases t <;> rfl
 | b::p,t=>by
  cases t with
  | nil=>cases b <;> exact Tx.get_put_same x p .nil
  | node v l r=>cases b <;> first|exact Tx.get_put_same x p l|exact Tx.get_put_same x p r
theorem Tx.get_nil{α:Type}:∀(p:List Bool),(Tx.nil:Tx α).get p=none
 | []=>rfl
 | b::p=>rfl
theorem Tx.get_put_ne{α:Type}(x:α):∀(p q:List Bool) (t:Tx α),p≠q→(Tx.put x p t).get q=t.get q
 | [],[],t,h=>absurd rfl h
 | [],b::q,t,_=>by cases t <;> cases b <;> first|rfl|exact Tx.get_nil q
 | b::p,[],t,_=>by cases t <;> cases b <;> rfl
 | b::p,c::q,t,h=>by
  have hn:b=c→p≠q:=fun hb hp=>h (by rw[hb,hp])
  cases t with
  | nil=>cases b <;> cases c <;> first
   | exact (Tx.get_put_ne x p q .nil (hn rfl)).trans (Tx.get_nil q)
   | exact Tx.get_nil q
  | node v l r=>cases b <;> cases c <;> first
   | exact Tx.get_put_ne x p q l (hn rfl)
   | exact Tx.get_put_ne x p q r (hn rfl)
   | rfl
abbrev TE:=Tx V
def TE.sub(t:TE)(e:Env):Prop:=∀k v,Tx.get (path k) t=some v→e.get k=some v
def TE.put(t:TE)(d:Option Nat)(v:V):TE:=Option.rec t (fun k=>Tx.put v (path k) t) d
theorem TE.sub_put{t:TE}{e:Env}(h:t.sub e)(d:Option Nat)(v:V):(TE.put t d v).sub (e.put d v):=by
 cases d with
 | none=>exact h
 | some k=>
  intro j w hj;simp only[Env.put,Env.get];by_cases hk:k=j
  ·subst hk;rw[if_pos rfl];have:=hj.symm.trans (Tx.get_put_same v (path k) t);exact this.symm
  ·rw[if_neg hk];exact h j w ((Tx.get_put_ne v (path k) (path j) t (fun hp=>hk (qd9 hp))).symm.trans hj)
structure TS where
 len:Nat
 tr:Tx Ob
def Ob.sk:Ob→Ob
 | .loop i=>.loop ⟨i.st,i.pend,[],.skip,.skip,[],0⟩
 | o=>o
theorem qeI{S:St}{l sz wr:Nat}{xs:List V}(h:(S[l]?).map Ob.sk=some (.arr xs sz wr)):S[l]?=some (.arr xs sz wr):=by
 cases ho:S[l]? with
 | none=>rw[ho] at h;cases h
 | some o=>rw[ho] at h;cases o <;> simp only[que,Ob.sk,Option.some.injEq,reduceCtorEq] at h;rw[h]
theorem qgn{S:St}{l ck:Nat}{es:List (V×V)}{bs:List Nat}(h:(S[l]?).map Ob.sk=some (.map es bs ck)):S[l]?=some (.map es bs ck):=by
 cases ho:S[l]? with
 | none=>rw[ho] at h;cases h
 | some o=>rw[ho] at h;cases o <;> simp only[que,Ob.sk,Option.some.injEq,reduceCtorEq] at h;rw[h]
theorem ql6{S:St}{l lm since last:Nat}{seen:List Nat}(h:(S[l]?).map Ob.sk=some (.iter lm since seen last)):S[l]?=some (.iter lm since seen last):=by
 cases ho:S[l]? with
 | none=>rw[ho] at h;cases h
 | some o=>rw[ho] at h;cases o <;> simp only[que,Ob.sk,Option.some.injEq,reduceCtorEq] at h;rw[h]
theorem qdi{S:St}{l:Nat}{i:LI}(h:(S[l]?).map Ob.sk=some (.loop i)):∃j,S[l]?=some (.loop j)∧j.st=i.st∧j.pend=i.pend:=by
 cases ho:S[l]? with
 | none=>rw[ho] at h;cases h
 | some o=>
  rw[ho] at h;cases o <;> simp only[que,Ob.sk,Option.some.injEq,reduceCtorEq,Ob.loop.injEq] at h;exact ⟨_,rfl,by rw[←h],by rw[←h]⟩
def TS.Abs(t:TS)(S:St):Prop:=S.length=t.len∧∀l,l<t.len→t.tr.get (path l)=(S[l]?).map Ob.sk
def TS.get(t:TS)(l:Nat)(c:Ob→Bool):Bool:=Bool.rec false (Option.rec false c (t.tr.get (path l))) (Nat.ble (Nat.succ l) t.len)
theorem TS.get_spec{t:TS}{S:St}{l:Nat}{c:Ob→Bool}(h:t.Abs S)(hc:t.get l c=true):∃o,(S[l]?).map Ob.sk=some o∧c o=true:=by
 unfold TS.get at hc
 cases hb:Nat.ble (Nat.succ l) t.len with
 | false=>rw[hb] at hc;cases hc
 | true=>
  rw[hb] at hc;have hlt:l<t.len:=Nat.le_of_ble_eq_true hb
  cases hg:t.tr.get (path l) with
  | none=>rw[hg] at hc;cases hc
  | some o=>rw[hg] at hc;exact ⟨o,(h.2 l hlt).symm.trans hg,hc⟩
def TS.set(t:TS)(l:Nat)(o:Ob):TS:=⟨t.len,t.tr.put o (path l)⟩
theorem TS.set_abs'{t:TS}{S:St}{l:Nat}{o o' o1:Ob}(h:t.Abs S)(hl:S[l]?=some o')(hk:o1.sk=o):(t.set l o).Abs (S.set l o1):=by
 subst hk;have hlt:l<S.length:=(qtV.1 hl).1;refine ⟨by simp[TS.set,h.1],fun j hj=>?_⟩;simp only[TS.set] at hj ⊢;by_cases hk:l=j
 ·subst hk;rw[Tx.get_put_same,qtZ hlt];rfl
 ·rw[Tx.get_put_ne _ _ _ _ (fun hp=>hk (qd9 hp)),qtY hk];exact h.2 j hj
def qb3(m:Nat)(c:Nat→Bool):Bool:=Nat.rec (c 0) (fun k _=>c (Nat.succ k)) m
theorem qby(m:Nat)(c:Nat→Bool):qb3 m c=c m:=by cases m <;> rfl
def TS.push(t:TS)(o:Ob):TS:=⟨Nat.succ t.len,t.tr.put o (path t.len)⟩
theorem TS.push_abs'{t:TS}{S:St}{o o1:Ob}(h:t.Abs S)(hk:o1.sk=o):(t.push o).Abs (S++[o1]):=by
 subst hk;refine ⟨by simp[TS.push,h.1],fun j hj=>?_⟩;simp only[TS.push] at hj ⊢;by_cases hk:t.len=j
 ·subst hk;rw[Tx.get_put_same,←h.1];simp
 ·rw[Tx.get_put_ne _ _ _ _ (fun hp=>hk (qd9 hp)),h.2 j (by omega),qt0 (by rw[h.1];omega)]
theorem TS.set_abs{t:TS}{S:St}{l:Nat}{o o':Ob}(h:t.Abs S)(hl:S[l]?=some o')(hk:o.sk=o:=by rfl):(t.set l o).Abs (S.set l o):=TS.set_abs' h hl hk
theorem TS.push_abs{t:TS}{S:St}{o:Ob}(h:t.Abs S)(hk:o.sk=o:=by rfl):(t.push o).Abs (S++[o]):=TS.push_abs' h hk
def qdD(v:V):Nat:=lenR v.cells
theorem qb0(v:V):qdD v=v.size:=qbC _
def qgl(l:List V):Bool:=allR V.flat l
theorem qdk(l:List V):qgl l=l.all V.flat:=qdc _ _
def qgz(a:List UInt8):List UInt8→Bool:=List.rec (motive:=fun _=>List UInt8→Bool) (fun b=>List.rec true (fun _ _ _=>false) b) (fun x _ ih b=>List.rec false (fun y ys _=>Bool.rec false (ih ys) (Nat.beq x.toNat y.toNat)) b) a
theorem qpf(x y:UInt8):Nat.beq x.toNat y.toNat=(x==y):=by
 rw[quA];simp;exact ⟨fun h=>UInt8.toNat_inj.1 h,fun h=>by rw[h]⟩
theorem qdJ:∀(a b:List UInt8),qgz a b=(a==b)
 | [],[]=>rfl
 | [],_::_=>rfl
 | _::_,[]=>rfl
 | x::xs,y::ys=>by
  show (Bool.rec false (qgz xs ys) (Nat.beq x.toNat y.toNat):Bool)=_;rw[qdJ xs ys,qpf];rw[List.cons_beq_cons];cases (x==y) <;> rfl
def qde(a b:ByteArray):Bool:=qgz a.data.toList b.data.toList
theorem qfQ(bs:ByteArray):∀(k i:Nat) (r:List UInt8),bs.size - i≤k→ByteArray.toList.loop bs i r=r.reverse++bs.data.toList.drop i
 | k,i,r,hk=>by
  unfold ByteArray.toList.loop;split
  ·rename_i hi
   cases k with
   | zero=>omega
   | succ k=>
    rw[qfQ bs k (i+1) _ (by omega)];have hi':i<bs.data.toList.length:=by simpa using hi
    rw[List.reverse_cons,qt5,qvp hi'];congr 1;simp only[List.singleton_append,List.cons.injEq,and_true];have hi2:i<bs.data.size:=hi;show bs.data[i]! =bs.data.toList[i];rw[getElem!_pos bs.data i hi2];simp
  ·rename_i hi;rw[qvm (by simpa using Nat.le_of_not_lt hi)];simp
theorem qbx(bs:ByteArray):bs.toList=bs.data.toList:=by
 unfold ByteArray.toList;rw[qfQ bs _ 0 [] (qt1 _)];simp
theorem qob(a b:ByteArray):(a.data.toList==b.data.toList)=qg2 a b:=by
 unfold qg2;rw[qbx,qbx]
theorem qht(a b:ByteArray):qde a b=qg2 a b:=by unfold qde;rw[qdJ,qob]
def optR{α:Type}(o:Option α)(c:α→Bool):Bool:=Option.rec false c o
theorem qay{α:Type}{o:Option α}{c:α→Bool}(h:optR o c=true):∃v,o=some v∧c v=true:=by
 cases o with
 | none=>cases h
 | some v=>exact ⟨v,rfl,h⟩
theorem qaw{a b:Bool}(h:andR a b=true):a=true∧b=true:=by rw[qek,qt3] at h;exact h
theorem qao{a b:Bool}(h:iteR a b false=true):a=true∧b=true:=by cases a <;> first|exact ⟨rfl,h⟩|cases h
theorem qaO{a b:Nat}(h:Nat.ble a b=true):a≤b:=Nat.le_of_ble_eq_true h
theorem qaM{a b:Nat}(h:Nat.beq a b=true):a=b:=Nat.eq_of_beq_eq_true h
def opd(x:Opd)(tr:TE)(c:V→Bool):Bool:=Opd.rec (fun n=>optR (Tx.get (path n) tr) c) (fun v=>c v) (fun f=>c (.fn (.func f) [] [])) x
theorem qat{x:Opd}{tr:TE}{e:Env}{c:V→Bool}(ht:tr.sub e)(h:opd x tr c=true):∃v,x.ev e=some v∧c v=true:=by
 cases x with
 | t n=>
  obtain ⟨v,h1,h2⟩:=qay (show optR (Tx.get (path n) tr) c=true from h);exact ⟨v,ht n v h1,h2⟩
 | c v=>exact ⟨v,rfl,h⟩
 | f k=>exact ⟨_,rfl,h⟩
def evsR(xs:List Opd)(tr:TE):(List V→Bool)→Bool:=List.rec (motive:=fun _=>(List V→Bool)→Bool) (fun c=>c []) (fun x _ ih c=>opd x tr fun v=>ih fun vs=>c (v::vs)) xs
theorem qbO{tr:TE}{e:Env}(ht:tr.sub e):∀{xs:List Opd} {c:List V→Bool},evsR xs tr c=true→∃vs,evs e xs=some vs∧c vs=true
 | [],c,h=>⟨[],rfl,h⟩
 | x::xs,c,h=>by
  obtain ⟨v,h1,h2⟩:=qat (c:=fun v=>evsR xs tr fun vs=>c (v::vs)) ht h;obtain ⟨vs,h3,h4⟩:=qbO ht h2;exact ⟨v::vs,by simp only[evs,h1,h3],h4⟩
def Done(e:Env)(S:St)(k:K)(c:V→TS→Bool):Prop:=∃r S' ts',evK e S k=some (r,S')∧ts'.Abs S'∧c r ts'=true
def qjS(k:IntKind)(x:Int):Int:=Int.rec (fun m=>IntKind.rec (k.wrap (Int.ofNat m)) (k.wrap (Int.ofNat m)) (k.wrap (Int.ofNat m)) (iteR (Nat.ble m 9223372036854775807) (Int.ofNat m) (k.wrap (Int.ofNat m))) (k.wrap (Int.ofNat m)) (k.wrap (Int.ofNat m)) (k.wrap (Int.ofNat m)) (k.wrap (Int.ofNat m)) k) (fun m=>k.wrap (Int.negSucc m)) x
theorem qi8(k:IntKind)(x:Int):qjS k x=k.wrap x:=by
 cases x with
 | negSucc m=>rfl
 | ofNat m=>
  cases k <;> try rfl
  show iteR (Nat.ble m 9223372036854775807) (Int.ofNat m) (IntKind.i64.wrap (Int.ofNat m))=_;rw[qaZ];split
  ·rename_i h;have:=qaO h;have h1:(Int.ofNat m) % (2 ^ IntKind.i64.bits:Int)=Int.ofNat m:=Int.emod_eq_of_lt (by simp) (by show (m:Int)<2 ^ 64;omega);have h2:¬ ((m:Int)≥2 ^ 63):=by omega
   unfold IntKind.wrap;simp only[h1];rw[if_neg];intro hh;rw[qt3,decide_eq_true_iff] at hh;exact h2 hh.2
  ·rfl
def addR(a b:Int):Int:=Int.rec (fun m=>Int.rec (fun n=>Int.ofNat (Nat.add m n)) (fun _=>a+b) b) (fun _=>a+b) a
theorem qpZ(a b:Int):addR a b=a+b:=by cases a <;> cases b <;> rfl
def subR(a b:Int):Int:=Int.rec (fun m=>Int.rec (fun n=>iteR (Nat.ble n m) (Int.ofNat (Nat.sub m n)) (a - b)) (fun _=>a - b) b) (fun _=>a - b) a
theorem qrL(a b:Int):subR a b=a - b:=by
 cases a <;> cases b <;> try rfl
 rename_i m n;show iteR (Nat.ble n m) (Int.ofNat (Nat.sub m n)) (Int.ofNat m - Int.ofNat n)=_;rw[qaZ];split
 ·rename_i h;have:=qaO h;show ((m - n:Nat):Int)=(m:Int) - (n:Int);omega
 ·rfl
def mulR(a b:Int):Int:=Int.rec (fun m=>Int.rec (fun n=>Int.ofNat (Nat.mul m n)) (fun _=>a * b) b) (fun _=>a * b) a
theorem qqk(a b:Int):mulR a b=a * b:=by cases a <;> cases b <;> rfl
def ltR(a b:Int):Bool:=Int.rec (fun m=>Int.rec (fun n=>Nat.ble (Nat.succ m) n) (fun _=>false) b) (fun m=>Int.rec (fun _=>true) (fun n=>Nat.ble (Nat.succ n) m) b) a
theorem qez{a b:Nat}:Nat.ble a b=true↔a≤b:=⟨qaO,fun h=>Nat.ble_eq_true_of_le h⟩
theorem qsf(a b:Int):ltR a b=decide (a<b):=by
 rw[quA,decide_eq_true_iff]
 cases a with
 | ofNat m=>cases b with
  | ofNat n=>show Nat.ble (Nat.succ m) n=true↔_;rw[qez];simp;omega
  | negSucc n=>show false=true↔_;simp;omega
 | negSucc m=>cases b with
  | ofNat n=>show true=true↔_;simp;omega
  | negSucc n=>show Nat.ble (Nat.succ n) m=true↔_;rw[qez];simp[Int.negSucc_eq];omega
def eqR(a b:Int):Bool:=Int.rec (fun m=>Int.rec (fun n=>Nat.beq m n) (fun _=>false) b) (fun m=>Int.rec (fun _=>false) (fun n=>Nat.beq m n) b) a
theorem qtm(a b:Int):eqR a b=decide (a=b):=by
 rw[quA,decide_eq_true_iff]
 cases a with
 | ofNat m=>cases b with
  | ofNat n=>show Nat.beq m n=true↔_;rw[Nat.beq_eq];exact ⟨fun h=>by rw[h],fun h=>Int.ofNat.inj h⟩
  | negSucc n=>show false=true↔_;simp
 | negSucc m=>cases b with
  | ofNat n=>show false=true↔_;simp
  | negSucc n=>show Nat.beq m n=true↔_;simp
def quoR(a b:Int):Int:=Int.rec (fun m=>Int.rec (fun n=>Int.ofNat (Nat.div m n)) (fun _=>a.tdiv b) b) (fun _=>a.tdiv b) a
theorem qqw(a b:Int):quoR a b=a.tdiv b:=by cases a <;> cases b <;> rfl
def remR(a b:Int):Int:=Int.rec (fun m=>Int.rec (fun n=>Int.ofNat (Nat.mod m n)) (fun _=>a.tmod b) b) (fun _=>a.tmod b) a
theorem qpT(a b:Int):remR a b=a.tmod b:=by cases a <;> cases b <;> rfl
def notR(b:Bool):Bool:=Bool.rec true false b
theorem qee(b:Bool):notR b=!b:=by cases b <;> rfl
def qou(op:BinOp)(k:IntKind)(a b:Int):Option V:=
 match op with
 | .add=>some (.int k (qjS k (addR a b)))
 | .sub=>some (.int k (qjS k (subR a b)))
 | .mul=>some (.int k (qjS k (mulR a b)))
 | .quo=>iteR (eqR b 0) none (some (.int k (qjS k (quoR a b))))
 | .rem=>iteR (eqR b 0) none (some (.int k (remR a b)))
 | .eql=>some (.bool (eqR a b))
 | .neq=>some (.bool (notR (eqR a b)))
 | .lss=>some (.bool (ltR a b))
 | .leq=>some (.bool (notR (ltR b a)))
 | .gtr=>some (.bool (ltR b a))
 | .geq=>some (.bool (notR (ltR a b)))
 | op=>intV op k a b
theorem qoM(op:BinOp)(k:IntKind)(a b:Int):qou op k a b=intV op k a b:=by
 cases op <;> simp only[qou,intV,qi8,qpZ,qrL,qqk,qtm,qsf,qee,qqw,qpT,qaZ,decide_eq_true_eq]
 all_goals first
  | rfl
  | (congr 2;rw[←decide_not];congr 1;simp)
def qqo(op:BinOp)(a b:ByteArray):Option V:=
 match op with
 | .eql=>some (.bool (qde a b))
 | .neq=>some (.bool (notR (qde a b)))
 | op=>strV op a b
theorem qjx(op:BinOp)(a b:ByteArray):qqo op a b=strV op a b:=by
 cases op <;> simp only[qqo,strV,qht,qee]
def qlJ(k k':IntKind):Bool:=Nat.beq (IntKind.rec 0 1 2 3 4 5 6 7 k) (IntKind.rec 0 1 2 3 4 5 6 7 k')
theorem qix{k k':IntKind}(h:qlJ k k'=true):k=k':=by cases k <;> cases k' <;> first|rfl|cases h
def isSh(op:BinOp):Bool:=match op with|.shl=>true|.shr=>true|_=>false
def binR(op:BinOp)(x y:V)(c:V→Bool):Bool:=
 match x with
 | .int k a=>match y with
  | .int k' b=>iteR (isSh op) (optR (shV op k a b) c) (iteR (qlJ k k') (optR (qou op k a b) c) false)
  | _=>false
 | .str a=>match y with
  | .str b=>optR (qqo op a b) c
  | _=>false
 | _=>false
theorem qmk{op:BinOp}{x y:V}{c:V→Bool}(h:binR op x y c=true):∃r,binV op x y=some r∧c r=true:=by
 unfold binR at h;split at h
 ·split at h
  ·rename_i k a k' b;rw[qaZ] at h;simp only[binV];split at h
   ·rename_i hs;rw[if_pos (by cases op <;> simp[isSh] at hs ⊢)];exact qay h
   ·rename_i hs;obtain ⟨h1,h2⟩:=qao h;rw[if_neg (by cases op <;> simp[isSh] at hs ⊢),if_pos (qix h1)];rw[qoM] at h2;exact qay h2
  ·cases h
 ·split at h
  ·rw[qjx] at h;exact qay h
  ·cases h
 ·cases h
def qkM(v:V)(off:Nat)(k:Option Nat):Option V:=
 Option.rec (nthR v.cells off) (fun n=>iteR (andR (Nat.beq off 0) (andR (Nat.beq n (qdD v)) v.isAgg)) (some v) (match v with
  | .agg cs=>iteR (Nat.ble (Nat.add off n) (lenR cs)) (some (.agg (qgO (qgT cs off) n))) none
  | _=>none)) k
theorem qdw{a b:Nat}:Nat.beq a b=true↔a=b:=⟨qaM,fun h=>by subst h;simp⟩
theorem qdZ(v:V)(off:Nat)(k:Option Nat):qkM v off k=v.part off k:=by
 cases k with
 | none=>exact qdK _ _
 | some n=>
  show iteR (andR (Nat.beq off 0) (andR (Nat.beq n (qdD v)) v.isAgg)) (some v) _=_;simp only[V.part,qaZ,qek,qt3,qdw,qb0];split
  ·rfl
  ·split
   ·rename_i cs;rw[qbC,qcO,qc0];simp only[qez];rfl
   ·rename_i hne;cases v <;> first|rfl|exact absurd rfl (hne _)
def updR(v:V)(off n:Nat)(x:V):Option V:=
 iteR (andR (Nat.beq (qdD x) n) (qgl x.cells)) (iteR (andR (Nat.beq off 0) (Nat.beq n (qdD v))) (some x) (match v with
  | .agg cs=>iteR (Nat.ble (Nat.add off n) (lenR cs)) (some (.agg (appR (qgO cs off) (appR x.cells (qgT cs (Nat.add off n)))))) none
  | _=>none)) none
theorem qkX(v:V)(off n:Nat)(x:V):updR v off n x=v.upd off n x:=by
 simp only[updR,V.upd,qaZ,qek,qt3,qdw,qb0,qdk];split
 ·split
  ·rfl
  ·split
   ·rename_i cs;rw[qbC,qcO,qc0,qbg,qbg];simp only[qez,qt5];rfl
   ·rename_i hne;cases v <;> first|rfl|exact absurd rfl (hne _)
 ·rfl
def ldR(p:V)(k:Option Nat)(ts:TS)(c:V→Bool):Bool:=
 match p with
 | .iptr v off=>optR (qkM v off k) c
 | .ptr l i off st=>ts.get l fun o=>match o with
  | .arr xs _ wr=>iteR (andR (Nat.ble wr st) (Nat.ble (Nat.succ i) st)) (optR (nthR xs i) fun v=>optR (qkM v off k) c) false
  | _=>false
 | .glob g off=>optR (qjY g off) fun q=>optR (qkM (.int q.1 q.2) 0 k) c
 | _=>false
theorem qjL{p:V}{k:Option Nat}{ts:TS}{S:St}{c:V→Bool}(hs:ts.Abs S)(h:ldR p k ts c=true):∃v,ldS S p k=some v∧c v=true:=by
 unfold ldR at h;split at h
 ·rw[qdZ] at h;exact qay h
 ·obtain ⟨o,h1,h2⟩:=TS.get_spec hs h;split at h2 <;> try cases h2
  have h1:=qeI h1;obtain ⟨h3,h4⟩:=qao h2;obtain ⟨h5,h6⟩:=qaw h3;obtain ⟨v,h7,h8⟩:=qay h4;rw[qdK] at h7;rw[qdZ] at h8;obtain ⟨r,h9,h10⟩:=qay h8;simp only[ldS,h1];exact ⟨r,by rw[if_pos ⟨qaO h5,qaO h6⟩,h7];exact h9,h10⟩
 ·obtain ⟨q,h1,h2⟩:=qay h;obtain ⟨r,h3,h4⟩:=qay h2;rw[qdZ] at h3;exact ⟨r,by simp only[ldS,h1];exact h3,h4⟩
 ·cases h
def stR(p:V)(n:Nat)(x:V)(ts:TS)(c:TS→Bool):Bool:=
 match p with
 | .ptr l i off st=>ts.get l fun o=>match o with
  | .arr xs sz _=>iteR (Nat.beq st (lenR xs)) (optR (nthR xs i) fun v=>optR (updR v off n x) fun v'=>c (ts.set l (.arr (setR v' xs i) sz st))) false
  | _=>false
 | _=>false
theorem qow{p x:V}{n:Nat}{ts:TS}{S:St}{c:TS→Bool}(hs:ts.Abs S)(h:stR p n x ts c=true):∃S' ts',stS S p n x=some S'∧ts'.Abs S'∧c ts'=true:=by
 unfold stR at h;split at h <;> try cases h
 obtain ⟨o,h1,h2⟩:=TS.get_spec hs h;split at h2 <;> try cases h2
 have h1:=qeI h1;obtain ⟨h3,h4⟩:=qao h2;obtain ⟨v,h5,h6⟩:=qay h4;obtain ⟨v',h7,h8⟩:=qay h6;rw[qbC] at h3;rw[qdK] at h5;rw[qkX] at h7;rw[qiA] at h8;refine ⟨_,_,?_,TS.set_abs hs h1,h8⟩;simp only[stS,h1];rw[if_pos (qaM h3),h5];simp only[qug,h7,que]
def boxR(x:V)(ts:TS)(c:V→TS→Bool):Bool:=
 iteR (andR (qgl x.cells) (Nat.ble 1 (qdD x))) (qb3 ts.len fun n=>c (.ptr n 0 0 1) (TS.push ⟨n,ts.tr⟩ (.arr [x] (qdD x) 1))) false
theorem qhN{x:V}{ts:TS}{S:St}{c:V→TS→Bool}(hs:ts.Abs S)(h:boxR x ts c=true):∃r S' ts',boxS S x=some (r,S')∧ts'.Abs S'∧c r ts'=true:=by
 unfold boxR at h;obtain ⟨h1,h2⟩:=qao h;obtain ⟨h3,h4⟩:=qaw h1;rw[qby] at h2;rw[qdk] at h3;rw[qb0] at h4 h2;refine ⟨_,_,_,?_,TS.push_abs (o:=.arr [x] x.size 1) hs,h2⟩;simp only[boxS];rw[if_pos ⟨h3,qaO h4⟩,hs.1]
def qiW(v:V)(ts:TS)(c:List V→Bool):Bool:=
 match v with
 | .sl _ xs=>c xs
 | .arr l off len st=>ts.get l fun o=>match o with
  | .arr xs _ wr=>iteR (andR (Nat.ble wr st) (Nat.ble (Nat.add off len) st)) (c (qgO (qgT xs off) len)) false
  | _=>false
 | _=>false
theorem qfx{v:V}{ts:TS}{S:St}{c:List V→Bool}(hs:ts.Abs S)(h:qiW v ts c=true):∃xs,elems S v=some xs∧c xs=true:=by
 unfold qiW at h;split at h
 ·exact ⟨_,rfl,h⟩
 ·obtain ⟨o,h1,h2⟩:=TS.get_spec hs h;split at h2 <;> try cases h2
  have h1:=qeI h1;obtain ⟨h3,h4⟩:=qao h2;obtain ⟨h5,h6⟩:=qaw h3;rw[qcO,qc0] at h4;simp only[elems,h1];exact ⟨_,if_pos ⟨qaO h5,qaO h6⟩,h4⟩
 ·cases h
def qmx(sz:Nat)(ys:List V):Bool:=allR (fun y=>andR (Nat.beq (qdD y) sz) (qgl y.cells)) ys
theorem qen(a b:Nat):Nat.beq a b=(a==b):=by rw[quA,Nat.beq_eq];simp
theorem qgQ(sz:Nat)(ys:List V):qmx sz ys=fits sz ys:=by
 simp only[qmx,fits,qdc,qek,qb0,qdk,qen]
def qfP{α:Type}(l:List α):Bool:=List.rec true (fun _ _ _=>false) l
theorem qfD{α:Type}(l:List α):qfP l=l.isEmpty:=by cases l <;> rfl
def qrE(sz bytes:Nat)(d x:V)(ts:TS)(c:V→TS→Bool):Bool:=
 qiW x ts fun ys=>match d with
  | .sl e xs=>iteR (qfP ys) (c d ts) (iteR (andR e (andR (qmx sz ys) (andR (allR (fun v=>Nat.beq (qdD v) sz) xs) (Nat.ble (Nat.mul (Nat.add (lenR xs) (lenR ys)) bytes) 140737488355328))))
    (qb3 ts.len fun n=>qb3 (Nat.add (lenR xs) (lenR ys)) fun m=>c (.arr n 0 m m) (TS.push ⟨n,ts.tr⟩ (.arr (appR xs ys) sz m))) false)
  | .arr l off len st=>ts.get l fun o=>match o with
   | .arr zs s wr=>qb3 (lenR zs) fun lz=>iteR (andR (Nat.beq off 0) (andR (Nat.beq len lz) (andR (Nat.beq st lz) (andR (Nat.beq s sz) (andR (qmx sz ys) (Nat.ble (Nat.mul (Nat.add lz (lenR ys)) bytes) 140737488355328))))))
     (qb3 (Nat.add lz (lenR ys)) fun m=>c (.arr l 0 m m) (ts.set l (.arr (appR zs ys) sz wr))) false
   | _=>false
  | _=>false
theorem qkG{sz bytes:Nat}{d x:V}{ts:TS}{S:St}{c:V→TS→Bool}(hs:ts.Abs S)(h:qrE sz bytes d x ts c=true):∃r S' ts',appS S sz bytes d x=some (r,S')∧ts'.Abs S'∧c r ts'=true:=by
 unfold qrE at h;obtain ⟨ys,h1,h2⟩:=qfx hs h;simp only[appS,h1];split at h2
 ·rw[qaZ,qfD] at h2;split at h2
  ·rename_i hy;exact ⟨_,_,ts,if_pos hy,hs,h2⟩
  ·rename_i hy;obtain ⟨g1,g2⟩:=qao h2;obtain ⟨q1,g3⟩:=qaw g1;obtain ⟨q2,g4⟩:=qaw g3;obtain ⟨q3,q4⟩:=qaw g4;rw[qgQ] at q2;rw[qdc] at q3;simp only[qbC,qby,qbg] at g2 q4;have q4:=qaO q4;refine ⟨_,_,_,?_,TS.push_abs hs,g2⟩;show (if ys.isEmpty=true then _ else _)=_;rw[if_neg hy,if_pos ⟨q1,q2,by simpa only[qb0,qen] using q3,q4⟩,hs.1];rfl
 ·obtain ⟨o,k1,k2⟩:=TS.get_spec hs h2;split at k2 <;> try cases k2
  have k1:=qeI k1;simp only[qby] at k2;obtain ⟨g1,g2⟩:=qao k2;obtain ⟨q1,g3⟩:=qaw g1;obtain ⟨q2,g4⟩:=qaw g3;obtain ⟨q3,g5⟩:=qaw g4;obtain ⟨q4,g6⟩:=qaw g5;obtain ⟨q5,q6⟩:=qaw g6;rw[qgQ] at q5;simp only[qbC,qbg] at g2 q2 q3 q6;have q4':=qaM q4;subst q4';have q6:=qaO q6;simp only[k1];refine ⟨_,_,_,if_pos ⟨qaM q1,qaM q2,qaM q3,trivial,q5,q6⟩,TS.set_abs hs k1,?_⟩;exact g2
 ·cases h2
def qlQ(a b:ByteArray):ByteArray:=⟨⟨appR a.data.toList b.data.toList⟩⟩
theorem ql3(a b:ByteArray):qlQ a b=a++b:=by
 apply qg4;simp[qlQ,qbg]
def qlI(s:ByteArray)(a b:Nat):ByteArray:=⟨⟨qgT (qgO s.data.toList b) a⟩⟩
theorem qns(s:ByteArray)(a b:Nat):qlI s a b=s.extract a b:=by
 apply qg4;simp[qlI,qcO,qc0,List.drop_take,List.extract_eq_take_drop]
def qiH(s:ByteArray):Nat:=lenR s.data.toList
theorem qg8(s:ByteArray):qiH s=s.size:=by rw[qiH,qbC];rfl
def ltS(a:List UInt8):List UInt8→Bool:=List.rec (motive:=fun _=>List UInt8→Bool) (fun b=>List.rec false (fun _ _ _=>true) b)
 (fun x _ ih b=>List.rec false (fun y ys _=>Bool.rec (Bool.rec false (ih ys) (Nat.beq x.toNat y.toNat)) true (Nat.ble (Nat.succ x.toNat) y.toNat)) b) a
theorem qo0:∀(a b:List UInt8),ltS a b=Op.bytesLess a b
 | [],[]=>rfl
 | [],_::_=>rfl
 | _::_,[]=>rfl
 | x::xs,y::ys=>by
  show (Bool.rec (Bool.rec false (ltS xs ys) (Nat.beq x.toNat y.toNat)) true (Nat.ble (Nat.succ x.toNat) y.toNat):Bool)=_;rw[qo0 xs ys,qpf];simp only[Op.bytesLess]
  have hd:Nat.ble (Nat.succ x.toNat) y.toNat=decide (x<y):=by
   rw[quA,decide_eq_true_iff,qez];exact UInt8.lt_iff_toNat_lt.symm
  rw[hd];cases decide (x<y) <;> cases (x==y) <;> rfl
def qfZ(a b:ByteArray):Bool:=ltS a.data.toList b.data.toList
theorem qmn(a b:ByteArray):qfZ a b=qfW a b:=by rw[qfZ,qo0,qfW,qbx,qbx]
def qlk(op:BinOp)(a b:ByteArray):Option V:=
 match op with
 | .eql=>some (.bool (qde a b))
 | .neq=>some (.bool (notR (qde a b)))
 | .add=>iteR (Nat.ble (Nat.add (qiH a) (qiH b)) 9223372036854775807) (some (.str (qlQ a b))) none
 | .lss=>some (.bool (qfZ a b))
 | .leq=>some (.bool (iteR (qfZ a b) true (qde a b)))
 | .gtr=>some (.bool (notR (iteR (qfZ a b) true (qde a b))))
 | .geq=>some (.bool (notR (qfZ a b)))
 | _=>none
theorem qmE(op:BinOp)(a b:ByteArray):qlk op a b=strV op a b:=by
 cases op <;> simp only[qlk,strV,qht,qee,qmn,ql3,qg8,qaZ]
 ·have:(Nat.ble (Nat.add a.size b.size) 9223372036854775807=true)↔(((a.size+b.size:Nat):Int)≤IntKind.i64.max):=by
   rw[qez];show a.size+b.size≤_↔((a.size+b.size:Nat):Int)≤9223372036854775807;omega
  simp only[this]
 all_goals (congr 2;first|rfl|(cases qfW a b <;> simp))
def qp0(op:BinOp)(x y:V)(c:V→Bool):Bool:=
 match x with
 | .int k a=>match y with
  | .int k' b=>iteR (isSh op) (optR (shV op k a b) c) (iteR (qlJ k k') (optR (qou op k a b) c) false)
  | _=>false
 | .str a=>match y with
  | .str b=>optR (qlk op a b) c
  | _=>false
 | _=>false
theorem qkg{op:BinOp}{x y:V}{c:V→Bool}(h:qp0 op x y c=true):∃r,binV op x y=some r∧c r=true:=by
 refine qmk (op:=op) (x:=x) (y:=y) (c:=c) ?_;unfold qp0 at h;unfold binR;split at h
 ·exact h
 ·split at h
  ·rw[qmE,←qjx] at h;exact h
  ·cases h
 ·cases h
def qlb(ps:List (Nat×Nat×Nat×Opd))(tr:TE):V→(V→Bool)→Bool:=List.rec (motive:=fun _=>V→(V→Bool)→Bool) (fun z c=>c z) (fun p _ ih z c=>opd p.2.2.2 tr fun v=>optR (updR z p.2.1 p.2.2.1 v) fun z'=>ih z' c) ps
theorem qfq{tr:TE}{e:Env}(ht:tr.sub e):∀{ps:List (Nat×Nat×Nat×Opd)} {z:V} {c:V→Bool},qlb ps tr z c=true→∃l r,qaf e ps=some l∧qal z (l.map fun p=>p.2)=some r∧c r=true
 | [],z,c,h=>⟨[],z,rfl,rfl,h⟩
 | (f,o,n,x)::ps,z,c,h=>by
  obtain ⟨v,h1,h2⟩:=qat (x:=x) (c:=fun v=>optR (updR z o n v) fun z'=>qlb ps tr z' c) ht h;obtain ⟨z',h3,h4⟩:=qay h2;obtain ⟨l,r,h5,h6,h7⟩:=qfq ht h4;rw[qkX] at h3;exact ⟨(f,o,n,v)::l,r,by simp only[qaf,h1,h5],by simp only[qud,qal,h3,qug,h6],h7⟩
def intR(v:V)(c:Int→Bool):Bool:=match v with|.int _ n=>c n|_=>false
theorem qcs{v:V}{c:Int→Bool}(h:intR v c=true):∃k n,v=.int k n∧c n=true:=by
 unfold intR at h;split at h
 ·exact ⟨_,_,rfl,h⟩
 ·cases h
def natR(i:Int)(c:Nat→Bool):Bool:=Int.rec c (fun _=>false) i
theorem qcM{i:Int}{c:Nat→Bool}(h:natR i c=true):∃m:Nat,i=(m:Int)∧c m=true:=by
 cases i with
 | ofNat m=>exact ⟨m,rfl,h⟩
 | negSucc m=>cases h
def qir(v:V)(c:Bool→Bool):Bool:=match v with|.bool b=>c b|_=>false
theorem qeE{v:V}{c:Bool→Bool}(h:qir v c=true):∃b,v=.bool b∧c b=true:=by
 unfold qir at h;split at h
 ·exact ⟨_,rfl,h⟩
 ·cases h
def iaR(sz:Nat)(p:V)(i:Int)(ts:TS)(c:V→Bool):Bool:=
 match p with
 | .sl _ xs=>natR i fun m=>optR (nthR xs m) fun v=>iteR (Nat.beq (qdD v) sz) (c (.iptr v 0)) false
 | .arr l off len st=>ts.get l fun o=>match o with
  | .arr _ s wr=>natR i fun m=>iteR (andR (Nat.ble wr st) (andR (Nat.beq s sz) (Nat.ble (Nat.succ m) len))) (qb3 (Nat.add off m) fun j=>c (.ptr l j 0 st)) false
  | _=>false
 | _=>false
theorem qoC{sz:Nat}{p:V}{i:Int}{ts:TS}{S:St}{c:V→Bool}(hs:ts.Abs S)(h:iaR sz p i ts c=true):∃r,iaS S sz p i=some r∧c r=true:=by
 unfold iaR at h;split at h
 ·obtain ⟨m,rfl,h1⟩:=qcM h;obtain ⟨v,h2,h3⟩:=qay h1;obtain ⟨h4,h5⟩:=qao h3;rw[qdK] at h2;rw[qb0] at h4;refine ⟨_,?_,h5⟩;simp only[iaS];rw[if_pos (Int.natCast_nonneg m),qvC,h2];exact if_pos (qaM h4)
 ·obtain ⟨o,h1,h2⟩:=TS.get_spec hs h;split at h2 <;> try cases h2
  have h1:=qeI h1;obtain ⟨m,rfl,h3⟩:=qcM h2;obtain ⟨h4,h5⟩:=qao h3;obtain ⟨q1,h6⟩:=qaw h4;obtain ⟨q2,q3⟩:=qaw h6;rw[qby] at h5;have q3:=qaO q3;refine ⟨_,?_,h5⟩;simp only[iaS,h1,qvC];exact if_pos ⟨qaO q1,qaM q2,Int.natCast_nonneg m,by omega⟩
 ·cases h
def idxR(v:V)(i:Int)(c:V→Bool):Bool:=
 match v with
 | .str s=>natR i fun m=>optR (nthR s.data.toList m) fun b=>c (.int .u8 (Int.ofNat b.toNat))
 | _=>false
theorem qlA{v:V}{i:Int}{c:V→Bool}(h:idxR v i c=true):∃s r,v=.str s∧idxV s i=some r∧c r=true:=by
 unfold idxR at h;split at h <;> try cases h
 obtain ⟨m,rfl,h1⟩:=qcM h;obtain ⟨b,h2,h3⟩:=qay h1;rw[qdK] at h2;refine ⟨_,_,rfl,?_,h3⟩;simp only[idxV];rw[if_pos (Int.natCast_nonneg m),qvC];rename_i s
 have hb:s[m]?=some b:=by
  obtain ⟨hm,hg⟩:=qtV.1 h2;have hm':m<s.size:=by simpa using hm
  rw[getElem?_pos s m hm'];congr 1
 rw[hb];rfl
def qe7(o:Option Int)(d:Nat)(c:Nat→Bool):Bool:=Option.rec (c d) (fun i=>natR i c) o
theorem qbY{o:Option Int}{d:Nat}{c:Nat→Bool}(h:qe7 o d c=true):∃m:Nat,o.getD (d:Int)=(m:Int)∧c m=true:=by
 cases o with
 | none=>exact ⟨d,rfl,h⟩
 | some i=>
  obtain ⟨m,rfl,h1⟩:=qcM (show natR i c=true from h);exact ⟨m,rfl,h1⟩
def slcR(s:Bool)(sz:Nat)(d:V)(lo hi:Option Int)(ts:TS)(c:V→Bool):Bool:=
 match d with
 | .str b=>iteR s (qe7 lo 0 fun l=>qe7 hi (qiH b) fun h=>iteR (andR (Nat.ble l h) (Nat.ble h (qiH b))) (c (.str (qlI b l h))) false) false
 | .sl x xs=>iteR s false (qe7 lo 0 fun l=>qe7 hi (lenR xs) fun h=>iteR (andR (Nat.ble l h) (andR (Nat.ble h (lenR xs)) (allR (fun v=>Nat.beq (qdD v) sz) xs))) (c (.sl (andR x (Nat.beq h (lenR xs))) (qgT (qgO xs h) l))) false)
 | .arr a off len st=>iteR s false (qe7 lo 0 fun l=>qe7 hi len fun h=>iteR (andR (Nat.ble l h) (Nat.ble h len)) (iteR (Nat.beq l 0) (c (.arr a off h st)) (iteR (Nat.beq l h) (c (.sl false [])) (ts.get a fun o=>match o with
  | .arr _ s wr=>iteR (andR (Nat.ble wr st) (Nat.beq s sz)) (qb3 (Nat.add off l) fun j=>qb3 (Nat.sub h l) fun n=>c (.arr a j n st)) false
  | _=>false))) false)
 | _=>false
theorem qnD{s:Bool}{sz:Nat}{d:V}{lo hi:Option Int}{ts:TS}{S:St}{c:V→Bool}(hs:ts.Abs S)(h:slcR s sz d lo hi ts c=true):
  ∃r,(match s,d with
   | true,.str b=>(qbs S sz (.str b) lo hi).map fun r=>(r,S)
   | false,.sl ..|false,.arr ..=>(qbs S sz d lo hi).map fun r=>(r,S)
   | _,_=>none)=some (r,S)∧c r=true:=by
 unfold slcR at h;split at h
 ·obtain ⟨rfl,h0⟩:=qao h;obtain ⟨l,h1,h2⟩:=qbY h0;obtain ⟨r,h3,h4⟩:=qbY h2;obtain ⟨h5,h6⟩:=qao h4;obtain ⟨q1,q2⟩:=qaw h5;rw[qg8] at h3 q2;have q1:=qaO q1;have q2:=qaO q2;rw[qns] at h6;refine ⟨_,?_,h6⟩;simp only[qbs];simp only[Int.ofNat_zero] at h1;rw[show (lo.getD 0)=(l:Int) from h1,h3,if_pos ⟨by omega,by omega,by omega⟩];simp
 ·rw[qaZ] at h;split at h
  ·cases h
  rename_i hs';simp only[qvw] at hs';subst hs';obtain ⟨l,h1,h2⟩:=qbY h;obtain ⟨r,h3,h4⟩:=qbY h2;obtain ⟨h5,h6⟩:=qao h4;obtain ⟨q1,h7⟩:=qaw h5;obtain ⟨q2,q3⟩:=qaw h7;rw[qbC] at h3 q2 h6;rw[qdc] at q3;rw[qc0,qcO,qek] at h6;have q1:=qaO q1;have q2:=qaO q2;refine ⟨_,?_,h6⟩;simp only[qbs];simp only[Int.ofNat_zero] at h1;rw[show (lo.getD 0)=(l:Int) from h1,h3,if_pos ⟨by omega,by omega,by omega,by simpa only[qb0,qen] using q3⟩];simp only[que,qvC,qen];congr 4;rw[quA];simp;omega
 ·rw[qaZ] at h;split at h
  ·cases h
  rename_i hs';simp only[qvw] at hs';subst hs';obtain ⟨l,h1,h2⟩:=qbY h;obtain ⟨r,h3,h4⟩:=qbY h2;obtain ⟨h5,h6⟩:=qao h4;obtain ⟨q1,q2⟩:=qaw h5;have q1:=qaO q1;have q2:=qaO q2;simp only[Int.ofNat_zero] at h1;simp only[qbs];rw[show (lo.getD 0)=(l:Int) from h1,h3,if_pos ⟨by omega,by omega,by omega⟩];rw[qaZ] at h6;split at h6
  ·rename_i hz;have:=qaM hz;subst this;exact ⟨_,by rw[if_pos (by simp)];simp,h6⟩
  ·rename_i hz;rw[if_neg (by intro hh;apply hz;rw[qdw];omega)];rw[qaZ] at h6;split at h6
   ·rename_i he;have:=qaM he;subst this;exact ⟨_,by rw[if_pos rfl];rfl,h6⟩
   ·rename_i he;rw[if_neg (by intro hh;apply he;rw[qdw];omega)];obtain ⟨o,k1,k2⟩:=TS.get_spec hs h6;split at k2 <;> try cases k2
    have k1:=qeI k1;obtain ⟨k3,k4⟩:=qao k2;obtain ⟨k5,k6⟩:=qaw k3;simp only[qby] at k4;refine ⟨_,?_,k4⟩;simp only[k1];rw[if_pos ⟨qaO k5,qaM k6⟩];simp
 ·cases h
def qiD(o:Option Opd)(tr:TE)(c:Option Int→Bool):Bool:=Option.rec (c none) (fun x=>opd x tr fun v=>intR v fun n=>c (some n)) o
theorem qeO{tr:TE}{e:Env}(ht:tr.sub e){o:Option Opd}{c:Option Int→Bool}(h:qiD o tr c=true):∃r,qdn e o=some r∧c r=true:=by
 cases o with
 | none=>exact ⟨none,rfl,h⟩
 | some x=>
  obtain ⟨v,h1,h2⟩:=qat (x:=x) (c:=fun v=>intR v fun n=>c (some n)) ht h;obtain ⟨k,n,rfl,h3⟩:=qcs h2;exact ⟨some n,by simp only[qdn,h1],h3⟩
def qs0(s:Bool)(v:V)(c:V→Bool):Bool:=
 match v with
 | .str b=>iteR s (c (.int .i64 (Int.ofNat (qiH b)))) false
 | .sl _ xs=>iteR s false (c (.int .i64 (Int.ofNat (lenR xs))))
 | .arr _ _ n _=>iteR s false (c (.int .i64 (Int.ofNat n)))
 | _=>false
def qiV(kd:KeyKd)(a b:V):Option Bool:=
 match a with
 | .str x=>match b with
  | .str y=>KeyKd.rec (some (qde x y)) (fun _=>none) kd
  | _=>none
 | a=>qfS kd a b
theorem qm9(kd:KeyKd)(a b:V):qiV kd a b=qfS kd a b:=by
 unfold qiV;split
 ·split
  ·cases kd
   ·show some (qde _ _)=_;rw[qde,qdJ];rfl
   ·rfl
  ·rename_i hb;cases kd <;> cases b <;> first|rfl|exact absurd rfl (hb _)
 ·rfl
def qdr(kd:KeyKd)(k:V)(es:List (V×V)):Nat→Option (Option (Nat×V)):=List.rec (motive:=fun _=>Nat→Option (Option (Nat×V))) (fun _=>some none)
 (fun p _ ih i=>Option.rec none (fun b=>Bool.rec (ih (Nat.succ i)) (some (some (i,p.2))) b) (qiV kd k p.1)) es
theorem qcW(kd:KeyKd)(k:V):∀(es:List (V×V)) (i:Nat),qdr kd k es i=qbQ kd k es i
 | [],i=>rfl
 | (k',v)::es,i=>by
  show (Option.rec none (fun b=>Bool.rec (qdr kd k es (Nat.succ i)) (some (some (i,v))) b) (qiV kd k k'):Option (Option (Nat×V)))=_;rw[qm9,qcW kd k es];simp only[qbQ]
  cases qfS kd k k' with
  | none=>rfl
  | some b=>cases b <;> rfl
def qrQ(kd:KeyKd)(z:V)(ok:Bool)(x k:V)(ts:TS)(c:V→Bool):Bool:=
 let fin (es:List (V×V)):Bool:=optR (qdr kd k es 0) fun r=>Option.rec (c (iteR ok (.tup [z,.bool false]) z)) (fun p=>c (iteR ok (.tup [p.2,.bool true]) p.2)) r
 iteR (qfV kd k) (match x with
  | .nilmap=>fin []
  | .map l=>ts.get l fun o=>match o with
   | .map es _ _=>fin es
   | _=>false
  | _=>false) false
theorem qkT{kd:KeyKd}{z:V}{ok:Bool}{x k:V}{ts:TS}{S:St}{c:V→Bool}(hs:ts.Abs S)(h:qrQ kd z ok x k ts c=true):∃r,lkpV S kd z ok x k=some r∧c r=true:=by
 unfold qrQ at h;obtain ⟨h1,h2⟩:=qao h
 have fin:∀es,qkq S x=some es→(optR (qdr kd k es 0) fun r=>Option.rec (c (iteR ok (.tup [z,.bool false]) z)) (fun p=>c (iteR ok (.tup [p.2,.bool true]) p.2)) r)=true→∃r,lkpV S kd z ok x k=some r∧c r=true:=by
  intro es hm hf;obtain ⟨r,g1,g2⟩:=qay hf;rw[qcW] at g1;simp only[lkpV];rw[if_pos h1,hm];simp only[g1]
  cases r with
  | none=>exact ⟨_,rfl,by rw[←qaZ];exact g2⟩
  | some p=>exact ⟨_,rfl,by rw[←qaZ];exact g2⟩
 split at h2
 ·exact fin [] rfl h2
 ·obtain ⟨o,k1,k2⟩:=TS.get_spec hs h2;split at k2 <;> try cases k2
  have k1:=qgn k1;exact fin _ (by simp only[qkq,k1]) k2
 ·cases h2
def qrD(kd:KeyKd)(x k v:V)(ts:TS)(c:TS→Bool):Bool:=
 iteR (qfV kd k) (match x with
  | .map l=>ts.get l fun o=>match o with
   | .map es bs ck=>optR (qdr kd k es 0) fun r=>Option.rec (c (ts.set l (.map (appR es [(k,v)]) (appR bs [ck]) (Nat.succ ck)))) (fun p=>c (ts.set l (.map (setR (k,v) es p.1) bs ck))) r
   | _=>false
  | _=>false) false
theorem qjQ{kd:KeyKd}{x k v:V}{ts:TS}{S:St}{c:TS→Bool}(hs:ts.Abs S)(h:qrD kd x k v ts c=true):∃S' ts',mupS S kd x k v=some S'∧ts'.Abs S'∧c ts'=true:=by
 unfold qrD at h;obtain ⟨h1,h2⟩:=qao h;split at h2 <;> try cases h2
 obtain ⟨o,k1,k2⟩:=TS.get_spec hs h2;split at k2 <;> try cases k2
 have k1:=qgn k1;obtain ⟨r,g1,g2⟩:=qay k2;rw[qcW] at g1;simp only[mupS];rw[if_pos h1];simp only[k1,g1]
 cases r with
 | none=>exact ⟨_,_,rfl,TS.set_abs hs k1,by rw[←qbg,←qbg];exact g2⟩
 | some p=>exact ⟨_,_,rfl,TS.set_abs hs k1,by rw[←qiA];exact g2⟩
def qpA(x:V)(ts:TS)(c:V→TS→Bool):Bool:=
 match x with
 | .map lm=>ts.get lm fun o=>match o with
  | .map _ _ ck=>qb3 ts.len fun n=>c (.ptr n 0 0 0) (TS.push ⟨n,ts.tr⟩ (.iter lm ck [] ck))
  | _=>false
 | _=>false
theorem qkQ{x:V}{ts:TS}{S:St}{c:V→TS→Bool}(hs:ts.Abs S)(h:qpA x ts c=true):∃r S' ts',rngS S x=some (r,S')∧ts'.Abs S'∧c r ts'=true:=by
 unfold qpA at h;split at h <;> try cases h
 obtain ⟨o,k1,k2⟩:=TS.get_spec hs h;split at k2 <;> try cases k2
 have k1:=qgn k1;rw[qby] at k2;exact ⟨_,_,_,by simp only[rngS,k1];rw[hs.1],TS.push_abs hs,k2⟩
def memR(b:Nat)(l:List Nat):Bool:=List.rec false (fun x _ ih=>Bool.rec ih true (Nat.beq b x)) l
theorem qip(b:Nat):∀l:List Nat,memR b l=l.contains b
 | []=>rfl
 | x::l=>by
  show (Bool.rec (memR b l) true (Nat.beq b x):Bool)=_;rw[qip b l,List.contains_cons,qen];cases (b==x) <;> rfl
def zipR{α β:Type}(l:List α):List β→List (α×β):=List.rec (motive:=fun _=>List β→List (α×β)) (fun _=>[]) (fun x _ ih m=>List.rec [] (fun y ys _=>(x,y)::ih ys) m) l
theorem qh6{α β:Type}:∀(l:List α) (m:List β),zipR l m=l.zip m
 | [],m=>rfl
 | x::l,[]=>rfl
 | x::l,y::m=>by rw[List.zip_cons_cons,←qh6 l m];rfl
def qgS{α:Type}(f:α→Bool)(l:List α):List α:=List.rec [] (fun x _ ih=>Bool.rec ih (x::ih) (f x)) l
theorem qgr{α:Type}(f:α→Bool):∀l:List α,qgS f l=l.filter f
 | []=>rfl
 | x::l=>by
  show (Bool.rec (qgS f l) (x::qgS f l) (f x):List α)=_;rw[qgr f l];cases hf:f x
  ·rw[List.filter_cons_of_neg (by simp[hf])]
  ·rw[List.filter_cons_of_pos hf]
def qoT(p:V)(ts:TS)(c:V→TS→Bool):Bool:=
 match p with
 | .ptr l i off st=>iteR (andR (Nat.beq i 0) (andR (Nat.beq off 0) (Nat.beq st 0))) (ts.get l fun o=>match o with
  | .iter lm since seen last=>ts.get lm fun m=>match m with
   | .map es bs ck=>iteR (andR (allR (fun b=>Nat.ble (Nat.succ b) since) bs) (Nat.ble since last)) (List.rec (c (.tup [.bool false]) ts)
    (fun q qs _=>allR (fun q=>c (.tup [.bool true,q.1.1,q.1.2]) (ts.set l (.iter lm since (appR seen [q.2]) ck))) (q::qs)) (qgS (fun q=>notR (memR q.2 seen)) (zipR es bs))) false
   | _=>false
  | _=>false) false
 | _=>false
theorem qjZ{p:V}{ts:TS}{S:St}{c:V→TS→Bool}(hs:ts.Abs S)(h:qoT p ts c=true):nxtS S p≠[]∧∀q,q∈nxtS S p→∃ts',ts'.Abs q.2∧c q.1 ts'=true:=by
 unfold qoT at h;split at h <;> try cases h
 rename_i l i off st;obtain ⟨h0,h⟩:=qao h;obtain ⟨z1,h0⟩:=qaw h0;obtain ⟨z2,z3⟩:=qaw h0;have z1:=qaM z1;have z2:=qaM z2;have z3:=qaM z3;subst z1;subst z2;subst z3;obtain ⟨o,k1,k2⟩:=TS.get_spec hs h;split at k2 <;> try cases k2
 rename_i lm since seen last;have k1:=ql6 k1;obtain ⟨m,g1,g2⟩:=TS.get_spec hs k2;split at g2 <;> try cases g2
 rename_i es bs ck;have g1:=qgn g1;obtain ⟨e1,e2⟩:=qao g2;obtain ⟨e3,e4⟩:=qaw e1;rw[qdc] at e3;have e4:=qaO e4
 have hall:(bs.all fun b=>decide (b<since))=true:=by
  simp only[quj,decide_eq_true_eq] at e3 ⊢;exact fun b hb=>qaO (e3 b hb)
 have hf:(fun q:(V×V)×Nat=>notR (memR q.2 seen))=fun q=>!seen.contains q.2:=by
  funext q;rw[qee,qip]
 rw[qgr,qh6,hf] at e2;simp only[nxtS,k1,g1];rw[if_pos ⟨hall,e4⟩]
 cases hq:(es.zip bs).filter fun q=>!seen.contains q.2 with
 | nil=>
  rw[hq] at e2;exact ⟨by simp,fun q hq=>by rw[quY] at hq;subst hq;exact ⟨ts,hs,e2⟩⟩
 | cons q0 qs=>
  rw[hq] at e2;have e2:allR (fun q:(V×V)×Nat=>c (.tup [.bool true,q.1.1,q.1.2]) (ts.set l (.iter lm since (appR seen [q.2]) ck))) (q0::qs)=true:=e2;rw[qdc,quj] at e2;refine ⟨by simp,fun q hq=>?_⟩;obtain ⟨q',hq',rfl⟩:=qul.1 hq;have:=e2 q' hq';rw[qbg] at this;exact ⟨_,TS.set_abs hs k1,this⟩
def qrB{α:Type}(f:α→Bool)(l:List α):Option α:=List.rec none (fun x _ ih=>Bool.rec ih (some x) (f x)) l
theorem qjJ{α:Type}(f:α→Bool):∀l:List α,qrB f l=l.find? f
 | []=>rfl
 | x::l=>by
  show (Bool.rec (qrB f l) (some x) (f x):Option α)=_;rw[qjJ f l,List.find?_cons];cases f x <;> rfl
def qla(l:List Nat):Bool:=List.rec true (fun x xs ih=>Bool.rec ih false (memR x xs)) l
theorem qfo:∀{l:List Nat},qla l=true→l.Nodup
 | [],_=>List.nodup_nil
 | x::xs,h=>by
  have h':(Bool.rec (qla xs) false (memR x xs):Bool)=true:=h
  cases hm:memR x xs with
  | true=>rw[hm] at h';cases h'
  | false=>
   rw[hm] at h';rw[qip] at hm;exact List.nodup_cons.2 ⟨by simpa using hm,qfo h'⟩
def qr8(l:List Nat):Option Nat:=List.rec (motive:=fun _=>Option Nat→Option Nat) (fun d=>d) (fun x _ ih _=>ih (some x)) l none
theorem qiX:∀(l:List Nat) (d:Option Nat),(List.rec (motive:=fun _=>Option Nat→Option Nat) (fun d=>d) (fun x _ ih _=>ih (some x)) l d:Option Nat)=match l.getLast? with|some x=>some x|none=>d
 | [],d=>rfl
 | [x],d=>rfl
 | x::y::l,d=>by
  show (List.rec (motive:=fun _=>Option Nat→Option Nat) (fun d=>d) (fun x _ ih _=>ih (some x)) (y::l) (some x):Option Nat)=_;rw[qiX (y::l),qvM]
theorem qoL(l:List Nat):qr8 l=l.getLast?:=by
 unfold qr8;rw[qiX];cases l.getLast? <;> rfl
def qpo(p:V)(ts:TS)(c:V→Bool):Bool:=
 match p with
 | .ptr l i off st=>iteR (andR (Nat.beq i 0) (andR (Nat.beq off 0) (Nat.beq st 0))) (ts.get l fun o=>match o with
  | .iter lm _ seen last=>ts.get lm fun m=>match m with
   | .map es bs ck=>iteR (andR (Nat.beq ck last) (qla bs)) (optR (qr8 seen) fun b=>optR (qrB (fun q=>Nat.beq q.2 b) (zipR es bs)) fun q=>c (.tup [q.1.1,q.1.2])) false
   | _=>false
  | _=>false) false
 | _=>false
theorem qkA{p:V}{ts:TS}{S:St}{c:V→Bool}(hs:ts.Abs S)(h:qpo p ts c=true):∃r,entS S p=some r∧c r=true:=by
 unfold qpo at h;split at h <;> try cases h
 rename_i l i off st;obtain ⟨h0,h⟩:=qao h;obtain ⟨z1,h0⟩:=qaw h0;obtain ⟨z2,z3⟩:=qaw h0;have z1:=qaM z1;have z2:=qaM z2;have z3:=qaM z3;subst z1;subst z2;subst z3;obtain ⟨o,k1,k2⟩:=TS.get_spec hs h;split at k2 <;> try cases k2
 have k1:=ql6 k1;obtain ⟨m,g1,g2⟩:=TS.get_spec hs k2;split at g2 <;> try cases g2
 have g1:=qgn g1;obtain ⟨e1,e2⟩:=qao g2;obtain ⟨e3,e4⟩:=qaw e1;have e3:=qaM e3;obtain ⟨b,e5,e6⟩:=qay e2;obtain ⟨q,e7,e8⟩:=qay e6;rw[qoL] at e5;rw[qjJ,qh6] at e7;have hf:∀b:Nat,(fun q:(V×V)×Nat=>Nat.beq q.2 b)=fun q=>q.2==b:=fun b=>by funext q;exact qen _ _
 rw[hf] at e7;refine ⟨_,?_,e8⟩;simp only[entS,k1,g1];rw[if_pos ⟨e3,qfo e4⟩];simp only[e5,e7]
def qjs{α:Type}(l:List α):Nat→List α:=List.rec (motive:=fun _=>Nat→List α) (fun _=>[]) (fun x xs ih n=>Nat.rec xs (fun m _=>x::ih m) n) l
theorem qfm{α:Type}:∀(l:List α) (n:Nat),qjs l n=l.eraseIdx n
 | [],n=>by simp[qjs]
 | x::xs,0=>rfl
 | x::xs,n+1=>by rw[List.eraseIdx_cons_succ,←qfm xs n];rfl
def qqA(kd:KeyKd)(x k:V)(ts:TS)(c:TS→Bool):Bool:=
 iteR (qfV kd k) (match x with
  | .map l=>ts.get l fun o=>match o with
   | .map es bs ck=>optR (qdr kd k es 0) fun r=>Option.rec (c (ts.set l (.map es bs ck))) (fun p=>c (ts.set l (.map (qjs es p.1) (qjs bs p.1) ck))) r
   | _=>false
  | _=>false) false
theorem qkd{kd:KeyKd}{x k:V}{ts:TS}{S:St}{c:TS→Bool}(hs:ts.Abs S)(h:qqA kd x k ts c=true):∃S' ts',delS S kd x k=some S'∧ts'.Abs S'∧c ts'=true:=by
 unfold qqA at h;obtain ⟨h1,h2⟩:=qao h;split at h2 <;> try cases h2
 obtain ⟨o,k1,k2⟩:=TS.get_spec hs h2;split at k2 <;> try cases k2
 have k1:=qgn k1;obtain ⟨r,g1,g2⟩:=qay k2;rw[qcW] at g1;simp only[delS];rw[if_pos h1];simp only[k1,g1]
 cases r with
 | none=>exact ⟨_,_,rfl,TS.set_abs hs k1,g2⟩
 | some p=>exact ⟨_,_,rfl,TS.set_abs hs k1,by rw[←qfm,←qfm];exact g2⟩
end Go.Proofs.YtbifpocccfkhhaaGreatDoor
end
