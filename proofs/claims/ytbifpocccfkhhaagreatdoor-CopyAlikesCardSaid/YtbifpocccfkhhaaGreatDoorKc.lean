/- A part of it. -/
import Derived.Test.YtbifpocccfkhhaaGreatDoorKa
import Derived.Deep.LoopGhost
import Derived.OrdersIn
import Derived.Scope
import Derived.RangeFuncLeaves
import Derived.RangeFuncRecord
set_option linter.all false
noncomputable section
namespace Go.Proofs.YtbifpocccfkhhaaGreatDoor
open Go
theorem qqN{E:En}{S:St}{P:Program}{w:World}{op:BinOp}{t:TypeId}{ox oy:Operand}{cs ds:List V}{u v:Value}{b neg:Bool}{fs:Array Field}{i:TypeInfo}{os:List (Nat×CK)}(hs:SR E S w)(hx:VR E (.agg cs) u)(hy:VR E (.agg ds) v)
  (hu:P.underlying t=some (.struct fs)) (hg:P.eqGuardType P.depth t=false) (hc:qdH P 10000 t=some os) (hi:P.info? t=some i) (l1:cs.length=i.size) (l2:ds.length=i.size) (h:qbh cs ds os=some b) (ho:op=if neg=true then .neq else .eql):
  Sim P E S w (do eqGuard op t ox oy u v;binOp op t u v) (.bool (if neg then !b else b)) S:=by
 have h1:(Op.equal t u v).run P w=.ok b w:=qsI 10000 t os _ _ u v b hc hx hy (by simp only[qep,hu];exact ⟨rfl,i,hi,l1⟩) (by simp only[qep,hu];exact ⟨rfl,i,hi,l2⟩) h
 cases hx with
 | agg _ _=>
  rename_i us _ _
  cases hy with
  | agg _ _=>
   rename_i vs _ _
   have hgd:(eqGuard op t ox oy (.agg us) (.agg vs)).run P w=.ok () w:=by
    unfold eqGuard;subst ho;cases neg <;> simp[run_program,hg,Result.andThen]
   refine Sim.pure hs (d:=.bool (if neg then !b else b)) ?_ (.bool _);simp only[Sem.run_bind,hgd,Result.andThen];subst ho;cases neg
   ·show (do pure (.bool (←Op.equal t (.agg us) (.agg vs))):Sem Value).run P w=_;simp[h1,Result.andThen]
   ·show (do pure (.bool (!(←Op.equal t (.agg us) (.agg vs)))):Sem Value).run P w=_;simp[h1,Result.andThen]
theorem qlR{P:Program}{w:World}{t el:TypeId}{a:Option Addr}{l c:Nat}(n:Nat)(hu:P.underlying t=some (.slice el)):(Op.equalIn (n+1) t (.slice a l c) (.slice none 0 0)).run P w=.ok a.isNone w:=by
 simp only[Op.equalIn,Sem.run_bind,qad hu,Result.andThen];cases a <;> rfl
theorem qpY{P:Program}{w:World}{op:BinOp}{t el:TypeId}{ox oy:Operand}{a:Option Addr}{l c:Nat}{neg:Bool}(hu:P.underlying t=some (.slice el))(ho:op=if neg=true then .neq else .eql):
  (do eqGuard op t ox oy (.slice a l c) (.slice none 0 0);binOp op t (.slice a l c) (.slice none 0 0):Sem Value).run P w=.ok (.bool (if neg then !a.isNone else a.isNone)) w:=by
 have hgd:(eqGuard op t ox oy (.slice a l c) (.slice none 0 0)).run P w=.ok () w:=by
  unfold eqGuard;subst ho;cases neg <;> simp
 have h1:(Op.equal t (.slice a l c) (.slice none 0 0)).run P w=.ok a.isNone w:=by
  exact qlR 9999 hu
 simp only[Sem.run_bind,hgd,Result.andThen];subst ho;cases neg
 ·show (do pure (.bool (←Op.equal t (.slice a l c) (.slice none 0 0))):Sem Value).run P w=_;simp[h1,Result.andThen]
 ·show (do pure (.bool (!(←Op.equal t (.slice a l c) (.slice none 0 0)))):Sem Value).run P w=_;simp[h1,Result.andThen]
theorem qgB{P:Program}{w:World}{a:Act}{op:BinOp}{t el yt:TypeId}{x y:Operand}{ad:Option Addr}{l c:Nat}{neg:Bool}{dst:Option Tmp}{type:TypeId}{pos:String}{after:Array Edge}{guard:Option (Nat×Bool)}(hu:P.underlying t=some (.slice el))(ho:op=if neg=true then .neq else .eql)
  (hx:a.eval x=.slice ad l c) (hy:a.eval y=.slice none 0 0):(execOp a.eval ⟨dst,.binOp op t x y yt,type,pos,after,guard⟩).run P w=.ok (.value (.bool (if neg then !ad.isNone else ad.isNone))) w:=by
 have:=qpY (P:=P) (w:=w) (ox:=x) (oy:=y) (a:=ad) (l:=l) (c:=c) hu ho;simp only[Sem.run_bind] at this;simp only[execOp,hx,hy,Sem.run_bind];rw[this];simp only[Result.andThen,Sem.run_pure]
theorem qgt{a:Act}{y:Operand}(h:qeN y=true):a.eval y=.slice none 0 0:=by
 unfold qeN at h;split at h
 ·rfl
 ·cases h
theorem qrV{args:Array Operand}{x' y':Opd}(h:args.toList.mapM qam=some [x',y']):∃x y,args=#[x,y]∧qam x=some x'∧qam y=some y':=by
 cases hl:args.toList with
 | nil=>rw[hl] at h;simp at h
 | cons x xs=>
  rw[hl] at h;simp only[quN,quw] at h
  cases h1:qam x with
  | none=>rw[h1] at h;simp at h
  | some x1=>
   rw[h1] at h
   cases xs with
   | nil=>simp at h
   | cons y ys=>
    simp only[quN,quw] at h
    cases h2:qam y with
    | none=>rw[h2] at h;simp at h
    | some y1=>
     rw[h2] at h
     cases ys with
     | nil=>
      simp at h;obtain ⟨rfl,rfl⟩:=h;exact ⟨x,y,by apply qvr.1;rw[hl],h1,h2⟩
     | cons z zs=>
      simp only[quN,quw] at h
      cases h3:qam z with
      | none=>rw[h3] at h;simp at h
      | some z1=>
       rw[h3] at h
       cases h4:zs.mapM qam with
       | none=>rw[h4] at h;simp at h
       | some q=>rw[h4] at h;simp at h
theorem qpd{P:Program}{E:En}{e:Env}{S S':St}{a:Act}{w:World}{o:Oper}{k:X}{r:V}(hc:qeX P o=some k)(he:evX e S k=some (r,S'))(ht:Tmps E e a.tmps)(hs:SR E S w):
  SimN P E S w (execOp a.eval o) r S':=by
 obtain ⟨dst,op,type,pos,after,guard⟩:=o;cases op <;> simp only[qeX] at hc <;> try (cases hc;done)
 case binOp bop t x y yt=>
  split at hc
  ·cases hc
  rename_i hop
  have hop':∀neg,(bop==BinOp.neq)=neg→bop=if neg=true then .neq else .eql:=by
   intro neg hn;subst hn;cases bop <;> first|rfl|(simp at hop;done)|(exact absurd hop (by decide))
  split at hc <;> try cases hc
  ·rename_i fs hu;split at hc
   ·cases hc
   rename_i hg;split at hc <;> try cases hc
   rename_i os i x' y' hos hi hx hy;simp only[evX] at he;split at he <;> try cases he
   rename_i cs ds hv1 hv2;split at he <;> try cases he
   rename_i hlen
   cases hb:qbh cs ds os with
   | none=>rw[hb] at he;cases he
   | some b=>
    rw[hb] at he;cases he;exact (qqN (ox:=x) (oy:=y) hs (qaw ht hx hv1) (qaw ht hy hv2) hu (by simpa using hg) hos hi hlen.1 hlen.2 hb (hop' _ rfl)).next
  ·rename_i el hu;split at hc
   ·rename_i hn
    cases hx:qam x with
    | none=>rw[hx] at hc;cases hc
    | some x'=>
     rw[hx] at hc;cases hc;have hy0:=qgt (a:=a) hn;simp only[evX] at he;split at he
     ·rename_i hv;cases he;have hvr:=qaw ht hx hv;generalize hua:a.eval x=u at hvr
      cases hvr with
      | sl hc' hx' hs' hI hv'=>
       refine ⟨.value (.bool (bop==.neq)),E,w,?_,.inl ⟨_,rfl,.bool _⟩,hs,Ext.refl _ _ _ _,qtH _⟩;rw[qgB hu (hop' _ rfl) hua hy0];cases (bop==BinOp.neq) <;> rfl
     ·rename_i hv;cases he;have hvr:=qaw ht hx hv;generalize hua:a.eval x=u at hvr
      cases hvr with
      | arr hr hN hc'=>
       refine ⟨.value (.bool (bop==.neq)),E,w,?_,.inl ⟨_,rfl,.bool _⟩,hs,Ext.refl _ _ _ _,qtH _⟩;rw[qgB hu (hop' _ rfl) hua hy0];cases (bop==BinOp.neq) <;> rfl
     ·cases he
   ·cases hc
 case lookup t x k ok=>
  split at hc <;> try cases hc
  rename_i kd kt et hm;split at hc <;> try cases hc
  rename_i i x' k' hi hx hk
  cases hz:i.zero with
  | none=>rw[hz] at hc;cases hc
  | some z=>
   rw[hz] at hc;cases hc;simp only[evX] at he;split at he <;> try cases he
   rename_i m key hv1 hv2
   cases hl:lkpV S kd (vOf z) ok m key with
   | none=>rw[hl] at he;cases he
   | some r'=>
    rw[hl] at he;cases he;exact (qjQ hs hm hi hz (qdD E z) (qaw ht hx hv1) (qaw ht hk hv2) hl).next
 case mapUpdate t m k x=>
  split at hc <;> try cases hc
  rename_i kd kt et m' k' x' hm h1 h2 h3;simp only[evX] at he;split at he <;> try cases he
  rename_i mv kv xv e1 e2 e3
  cases hl:mupS S kd mv kv xv with
  | none=>rw[hl] at he;cases he
  | some S2=>
   rw[hl] at he;cases he;obtain ⟨E',w',g1,g2,g3,g4⟩:=qeh (P:=P) hs hm (qaw ht h1 e1) (qaw ht h2 e2) (qaw ht h3 e3) hl;exact ⟨.skip,E',w',by simp[execOp,g1,Result.andThen],.inr ⟨rfl,rfl⟩,g2,g3,g4⟩
 case insert t m k x=>
  split at hc <;> try cases hc
  rename_i kd kt et m' k' x' hm h1 h2 h3;simp only[evX] at he;split at he <;> try cases he
  rename_i mv kv xv e1 e2 e3
  cases hl:mupS S kd mv kv xv with
  | none=>rw[hl] at he;cases he
  | some S2=>
   rw[hl] at he;cases he;obtain ⟨E',w',g1,g2,g3,g4⟩:=qeh (P:=P) hs hm (qaw ht h1 e1) (qaw ht h2 e2) (qaw ht h3 e3) hl;exact ⟨.skip,E',w',by simp[execOp,g1,Result.andThen],.inr ⟨rfl,rfl⟩,g2,g3,g4⟩
 case makeMap t rv=>
  cases rv with
  | some h=>cases hc
  | none=>
   simp only[Option.some.injEq] at hc;subst hc;simp only[evX,Option.some.injEq,Prod.mk.injEq] at he;obtain ⟨rfl,rfl⟩:=he;exact (qiu (t:=t) hs).next
 case call c=>
  obtain ⟨callee,args,argTypes⟩:=c;simp only at hc;split at hc <;> try cases hc
  ·rename_i x' y' hargs;obtain ⟨x,y,rfl,hx,hy⟩:=qrV hargs;simp only[evX] at he;split at he <;> try cases he
   rename_i u v hu hv
   cases hm:mmV true u v with
   | none=>rw[hm] at he;cases he
   | some r'=>
    rw[hm] at he;cases he;have h1:=qaw ht hx hu;have h2:=qaw ht hy hv;generalize hxa:a.eval x=xa at h1;generalize hya:a.eval y=ya at h2;cases h1 <;> cases h2 <;> simp only[mmV,reduceCtorEq,Option.some.injEq] at hm;subst hm;exact ⟨.value (.int _ _),E,w,by simp[execOp,resolve,invoke,builtin,Builtin.max_,Builtin.max2,hxa,hya,Result.andThen],.inl ⟨_,rfl,.int _ _⟩,hs,Ext.refl _ _ _ _,qtH _⟩
  ·rename_i x' y' hargs;obtain ⟨x,y,rfl,hx,hy⟩:=qrV hargs;simp only[evX] at he;split at he <;> try cases he
   rename_i u v hu hv
   cases hm:mmV false u v with
   | none=>rw[hm] at he;cases he
   | some r'=>
    rw[hm] at he;cases he;have h1:=qaw ht hx hu;have h2:=qaw ht hy hv;generalize hxa:a.eval x=xa at h1;generalize hya:a.eval y=ya at h2;cases h1 <;> cases h2 <;> simp only[mmV,reduceCtorEq,Option.some.injEq] at hm;subst hm;exact ⟨.value (.int _ _),E,w,by simp[execOp,resolve,invoke,builtin,Builtin.min_,Builtin.min2,hxa,hya,Result.andThen],.inl ⟨_,rfl,.int _ _⟩,hs,Ext.refl _ _ _ _,qtH _⟩
  ·rename_i x' y' hargs;obtain ⟨x,y,rfl,hx,hy⟩:=qrV hargs;split at hc <;> try cases hc
   rename_i t hts
   cases hm:qet P t with
   | none=>rw[hm] at hc;cases hc
   | some q=>
    rw[hm] at hc;simp only[qtT,Option.some.injEq] at hc;subst hc;obtain ⟨kd,kt,et⟩:=q;simp only[evX] at he;split at he <;> try cases he
    rename_i m key hv1 hv2
    cases hl:delS S kd m key with
    | none=>rw[hl] at he;cases he
    | some S2=>
     rw[hl] at he;cases he;obtain ⟨d,E',w',g1,g2,g3⟩:=qkt (P:=P) (T:=type) hs hts hm (qaw ht hx hv1) (qaw ht hy hv2) hl;exact ⟨.value d,E',w',by simp[execOp,resolve,invoke,builtin,g1,Result.andThen],.inl ⟨d,rfl,g2⟩,g3⟩
 case range t x=>
  split at hc <;> try cases hc
  rename_i q x' hm hx;simp only[evX] at he
  cases hv:x'.ev e with
  | none=>rw[hv] at he;cases he
  | some v=>
   rw[hv] at he;exact (qmG hs hm (qaw ht hx hv) he).next
 case next x b=>
  cases b
  ·simp only at hc
   cases hx:qam x with
   | none=>rw[hx] at hc;cases hc
   | some x'=>rw[hx] at hc;cases hc;simp only[evX] at he;cases he
  ·cases hc
 case entry x=>
  cases hx:qam x with
  | none=>rw[hx] at hc;cases hc
  | some x'=>
   rw[hx] at hc;cases hc;simp only[evX] at he
   cases hv:x'.ev e with
   | none=>rw[hv] at he;cases he
   | some v=>
    rw[hv] at he;simp only[qtT] at he
    cases hr:entS S v with
    | none=>rw[hr] at he;cases he
    | some r'=>
     rw[hr] at he;cases he;exact (qlV hs (qaw ht hx hv) hr).next
 case build t ps=>
  split at hc <;> try cases hc
  rename_i i l hi hl;split at hc <;> try cases hc
  rename_i z hz;split at hc <;> try cases hc
  rename_i j x hps;split at hc <;> try cases hc
  rename_i n x' hj hx;split at hc <;> cases hc;rename_i hzn;simp only[evX] at he
  cases hv:x'.ev e with
  | none=>rw[hv] at he;cases he
  | some v=>
   rw[hv] at he;simp only[qtT] at he;split at he <;> cases he;rename_i hvn;have hps':ps=#[(j,x)]:=by apply qvr.1;rw[hps]
   subst hps';exact (qoQ hs hi hz hzn hl hj (qaw ht hx hv) hvn.1 hvn.2).next.cast (by simp[execOp])
 case index t x i=>
  split at hc <;> try cases hc
  rename_i n el hu;split at hc <;> try cases hc
  rename_i ei k x' i' hei hk hx hi;simp only[evX] at he;split at he <;> try cases he
  rename_i v kd ix hv1 hv2;split at he <;> try cases he
  rename_i hcc
  cases hr:v.part (ix.toNat * ei.size) k with
  | none=>rw[hr] at he;cases he
  | some r'=>
   rw[hr] at he;cases he;have h2:=qaw ht hi hv2;generalize hia:a.eval i=ia at h2;cases h2;refine (qrT (kd:=kd) hs (qaw ht hx hv1) hcc.1 hu hei hk hcc.2 hr).next.cast ?_;simp only[execOp,hia]
 case makeSlice t l c=>
  split at hc <;> try cases hc
  rename_i el hu;split at hc <;> try cases hc
  rename_i i l' c' hi hl hcc
  cases hz:i.zero with
  | none=>rw[hz] at hc;cases hc
  | some z=>
   rw[hz] at hc;cases hc;simp only[evX] at he;split at he <;> try cases he
   rename_i kl l0 kc c0 e1 e2;have h1:=qaw ht hl e1;have h2:=qaw ht hcc e2;refine (qgF (kl:=kl) (kc:=kc) hs hu hi hz (qdD E z) he).next.cast ?_;generalize hla:a.eval l=la at h1;generalize hca:a.eval c=ca at h2;cases h1;cases h2;simp only[execOp,hla,hca]
 case indexAddr t x i=>
  split at hc <;> try cases hc
  rename_i n sz x' i' hty hx hi;simp only[evX] at he;split at he <;> try cases he
  rename_i p k ix e1 e2
  cases hr:iaaV n sz p ix with
  | none=>rw[hr] at he;cases he
  | some r'=>
   rw[hr] at he;cases he;have h2:=qaw ht hi e2;refine (qqE (k:=k) hs (qaw ht hx e1) hty hr).next.cast ?_;generalize hia:a.eval i=ia at h2;cases h2;simp only[execOp,hia]
 case convert src d x=>
  split at hc <;> try cases hc
  ·rename_i el x' h1 h2 hx;split at hc <;> cases hc;rename_i hb;simp only[evX] at he
   cases hv:x'.ev e with
   | none=>rw[hv] at he;cases he
   | some p=>
    rw[hv] at he;simp only[qtT] at he
    cases hr:ctsV S p with
    | none=>rw[hr] at he;cases he
    | some r'=>
     rw[hr] at he;cases he;exact (qpK hs (qaw ht hx hv) h1 (qhl hb) h2 hr).next
  ·rename_i el x' h1 h2 hx;split at hc <;> cases hc;rename_i hb;simp only[evX] at he;split at he <;> try cases he
   rename_i s hv;have hvr:=qaw ht hx hv;refine (qq0 hs h1 h2 (qhl hb)).next.cast ?_;generalize hxa:a.eval x=xa at hvr;cases hvr;simp only[execOp,hxa]
theorem qqL{P:Program}{E:En}{e:Env}{S S':St}{a:Act}{w:World}{o:Oper}{k:K}{r:V}(hc:qbK P o=some k)(he:evK e S k=some (r,S'))(ht:Tmps E e a.tmps)(hs:SR E S w):
  SimN P E S w (execOp a.eval o) r S':=by
 unfold qbK at hc;split at hc
 ·rename_i k' hk;cases hc;exact qnA hk he ht hs
 ·cases hx:qeX P o with
  | none=>rw[hx] at hc;cases hc
  | some x=>rw[hx] at hc;cases hc;exact qpd hx he ht hs
theorem qhR(P:Program)(o:Oper)(x:X):qcb P o≠some (.ex x):=by
 intro h;obtain ⟨dst,op,type,pos,after,guard⟩:=o;cases op <;> simp only[qcb] at h
 all_goals (first|(cases h;done)|(simp at h;done)|(revert h;repeat' split))
 all_goals (first|contradiction|(intro h;cases h;done)|(intro h;simp at h;done)|skip)
def ndS(e:Env)(S:St):K→List (V×St)
 | .ex (.nxt x)=>match x.ev e with
  | some p=>nxtS S p
  | none=>[]
 | _=>[]
theorem qq6{P:Program}{E:En}{e:Env}{S:St}{a:Act}{w:World}{o:Oper}{k:K}(hc:qbK P o=some k)(hn:ndS e S k≠[])(ht:Tmps E e a.tmps)(hs:SR E S w):∃q,q∈ndS e S k∧SimN P E S w (execOp a.eval o) q.1 q.2:=by
 have hk:∃x,k=.ex (.nxt x):=by
  cases k <;> try exact absurd rfl hn
  rename_i x;cases x <;> first|exact ⟨_,rfl⟩|exact absurd rfl hn
 obtain ⟨x,rfl⟩:=hk
 have hx:qeX P o=some (.nxt x):=by
  unfold qbK at hc;split at hc
  ·rename_i k' hk;cases hc;exact absurd hk (qhR P o _)
  ·cases hx:qeX P o with
   | none=>rw[hx] at hc;cases hc
   | some x'=>rw[hx] at hc;cases hc;rfl
 obtain ⟨dst,op,type,pos,after,guard⟩:=o
 have hop:∃y,op=.next y false∧qam y=some x:=by
  cases op <;> simp only[qeX] at hx <;> try (cases hx;done)
  case next y b=>
   cases b
   ·simp only at hx
    cases hy:qam y with
    | none=>rw[hy] at hx;cases hx
    | some y'=>rw[hy] at hx;cases hx;exact ⟨y,rfl,hy⟩
   ·cases hx
  all_goals (revert hx;repeat' split)
  all_goals first|contradiction|(intro hx;first|(cases hx;done)|(simp only[qtK,quv,reduceCtorEq,and_false,exists_false,Option.some.injEq] at hx;done)|(obtain ⟨_,_,hx⟩:=qtK.1 hx;cases hx)|(obtain ⟨_,_,hx⟩:=quv.1 hx;cases hx))
 obtain ⟨y,rfl,hy⟩:=hop;simp only[ndS] at hn ⊢;split at hn
 ·rename_i p hp;obtain ⟨q,hq,hsim⟩:=qou (P:=P) (t:=type) hs (qaw ht hy hp) hn;exact ⟨q,hq,hsim.next⟩
 ·exact absurd rfl hn
theorem qqC{P:Program}{E:En}{e:Env}{S:St}{a:Act}{w:World}{o:Oper}{k:K}(hc:qbK P o=some k)(hn:ndK e k≠[])(ht:Tmps E e a.tmps)(hs:SR E S w):
  ∃v u,v∈ndK e k∧(execOp a.eval o).run P w=.ok (.value u) w∧VR E v u:=by
 have hk:∃x,k=.ex x:=by cases k <;> first|exact ⟨_,rfl⟩|exact absurd rfl hn
 obtain ⟨x,rfl⟩:=hk
 have hx:qeX P o=some x∨qcb P o=some (.ex x):=by
  unfold qbK at hc;split at hc
  ·rename_i k' hk;cases hc;exact .inr hk
  ·cases hx:qeX P o with
   | none=>rw[hx] at hc;cases hc
   | some x'=>rw[hx] at hc;cases hc;exact .inl rfl
 obtain ⟨dst,op,type,pos,after,guard⟩:=o;cases x <;> simp only[ndK,ndX] at hn <;> try exact absurd rfl hn
 rename_i neg x';rcases hx with hx|hx
 ·cases op <;> simp only[qeX] at hx <;> try (cases hx;done)
  case binOp bop t x y yt=>
   split at hx
   ·cases hx
   rename_i hop
   have hop':∀neg,(bop==BinOp.neq)=neg→bop=if neg=true then .neq else .eql:=by
    intro neg hn;subst hn;cases bop <;> first|rfl|(simp at hop;done)|(exact absurd hop (by decide))
   split at hx <;> try cases hx
   ·split at hx
    ·cases hx
    ·split at hx <;> cases hx
   ·rename_i el hu;split at hx
    ·rename_i hnil
     cases hxx:qam x with
     | none=>rw[hxx] at hx;cases hx
     | some x2=>
      rw[hxx] at hx;cases hx;simp only[ndK,ndX];split at hn
      ·rename_i hv;have hvr:=qaw ht hxx hv;have hy0:=qgt (a:=a) hnil;generalize hua:a.eval x=u at hvr;have hform:∃ad l c,u=.slice ad l c:=by cases hvr <;> exact ⟨_,_,_,rfl⟩
       obtain ⟨ad,l,c,rfl⟩:=hform;refine ⟨_,_,?_,qgB hu (hop' _ rfl) hua hy0,.bool _⟩
       ·simp only[quc,V.bool.injEq,quO,or_false];generalize (if (bop==BinOp.neq)=true then !ad.isNone else ad.isNone)=q;cases q <;> simp
      ·exact absurd rfl hn
    ·cases hx
  all_goals (exfalso;revert hx;repeat' split)
  all_goals (first|contradiction|(intro hx;cases hx;done)|(intro hx;simp only[qtK] at hx;obtain ⟨_,_,hx⟩:=hx;cases hx;done)|(intro hx;simp only[quv] at hx;obtain ⟨_,_,hx⟩:=hx;cases hx;done)|(intro hx;simp at hx;done)|skip)
 ·exact absurd hx (qhR _ _ _)
structure O' where
 dst:Option Nat
 g:Option (Nat×Bool)
 k:K
 deriving Inhabited
def qjT(N:Nat):Option Nat→Bool
 | none=>true
 | some d=>decide (d<N)
def qbr(P:Program)(N:Nat)(ops:Array Oper)(o:Oper):Option O':=
 match qbK P o with
 | none=>none
 | some k=>if qjT N o.dst=true then
   match o.guard with
   | none=>some ⟨o.dst,none,k⟩
   | some (j,want)=>match (ops[j]?).bind (·.dst) with
    | some t=>some ⟨o.dst,some (t,want),k⟩
    | none=>none
  else none
def VRs(E:En)(args:List V)(us:Array Value):Prop:=args.length=us.size∧∀(i:Nat) (v:V) (u:Value),args[i]?=some v→us[i]?=some u→VR E v u
def Spec(P:Program)(f:FuncId)(args:List V)(S:St)(R:V→St→Prop):Prop:=
 (∀as w,(callFunc f as).run P w=.ok (.enter f as) w)∧
 ∀(E:En) (w:World) (us:Array Value) (n:Nat),SR E S w→VRs E args us→
  CallsIn Fence.wide n P f us w fun e w'=>∃u r E' S',e=.returned u∧R r S'∧VR E' r u∧SR E' S' w'∧Ext S.length E S w E' S' w'∧S.length≤S'.length
def qbS(P:Program)(l:Nat)(args:List V)(S:St)(R:V→St→Prop):Prop:=
 ∀(E:En) (w:World) (us:Array Value) (n:Nat) (x:Blk),SR E S w→VRs E args us→E.ρ l 0=some x→
  ∃f tmps asg body,(Instr.yield x.b us).run P w=.ok (.round x.b f tmps asg body) w∧
   RoundIn Fence.wide n P x.b f tmps asg body w fun e w'=>∃u r E' S',e=.returned u∧R r S'∧VR E' r u∧SR E' S' w'∧Ext S.length E S w E' S' w'∧S.length≤S'.length
theorem Spec.mono{P:Program}{f:FuncId}{args:List V}{S:St}{R R':V→St→Prop}(h:Spec P f args S R)(hr:∀r S',R r S'→R' r S'):Spec P f args S R':=
 ⟨h.1,fun E w us n hs hv=>(h.2 E w us n hs hv).mono fun e w' ⟨u,r,E',S',h1,h2,h3⟩=>⟨u,r,E',S',h1,hr _ _ h2,h3⟩⟩
def qaX(e:Env):Option (Nat×Bool)→Option Bool
 | none=>some true
 | some (t,want)=>match e.get t with
  | some (.bool b)=>some (b==want)
  | some (.tup [])=>some false
  | _=>none
def wops(P:Program):List O'→(Env→St→Prop)→Env→St→Prop
 | [],Q,e,S=>Q e S
 | o::os,Q,e,S=>match qaX e o.g with
  | none=>False
  | some false=>wops P os Q (e.put o.dst (.tup [])) S
  | some true=>match o.k with
   | .call f args=>match f.ev e,evs e args with
    | some (.fn (.func k) fs cs),some vs=>∃R,Spec P k (fs++vs++cs) S R∧∀r S',R r S'→wops P os Q (e.put o.dst r) S'
    | some (.yld l),some vs=>∃R,qbS P l vs S R∧∀r S',R r S'→wops P os Q (e.put o.dst r) S'
    | _,_=>False
   | k=>match evK e S k with
    | some (r,S')=>wops P os Q (e.put o.dst r) S'
    | none=>(ndK e k≠[]∧∀v,v∈ndK e k→wops P os Q (e.put o.dst v) S)∨(ndS e S k≠[]∧∀q,q∈ndS e S k→wops P os Q (e.put o.dst q.1) q.2)
abbrev Post:=Exit→Env→St→Prop
def Env.sub(e' e:Env):Prop:=∀t v,e'.get t=some v→e.get t=some v
def qb5(ro:Option Nat):Fence:={ Fence.wide with round:=ro }
def Up(N n0 m0:Nat)(E:En)(S:St)(w:World)(Q:Post)(x:Exit)(a':Act)(w':World):Prop:=
 ∃E' e' S',Rel N n0 m0 E' e' S' a' w'∧Ext n0 E S w E' S' w'∧Q x e' S'
theorem Up.back{N n0 m0:Nat}{E E1:En}{S S1:St}{w w1:World}{Q:Post}{x:Exit}{a:Act}{w':World}(h:Ext n0 E S w E1 S1 w1)(g:Up N n0 m0 E1 S1 w1 Q x a w'):Up N n0 m0 E S w Q x a w':=
 let ⟨E',e',S',r,x,q⟩:=g;⟨E',e',S',r,h.trans x,q⟩
theorem qbX{ro:Option Nat}{ρ:Operand→Value}{o:Oper}{P:Program}{k:K}(h:qbK P o=some k):o.semAt ro ρ=execOp ρ o:=by
 cases ro with
 | none=>exact Oper.semAt_none ρ o
 | some l=>exact Oper.semAt_some l ρ o fun c hc=>by simp[qbK,qcb,qeX,hc] at h
theorem Rel.put{N n0 m0:Nat}{E:En}{e:Env}{S:St}{a:Act}{w:World}(h:Rel N n0 m0 E e S a w){d:Option Nat}{v:V}{u:Value}(hd:qjT N d=true)(r:VR E v u):Rel N n0 m0 E (e.put d v) S (a.put d u) w:=by
 cases d with
 | none=>exact h
 | some d=>
  simp[qjT] at hd;exact ⟨h.tmps.put (by rw[h.size];exact hd) r,by simp[Act.put,h.size],h.defers,h.base,h.sr⟩
theorem Rel.step{N n0 m0:Nat}{E E':En}{e:Env}{S S':St}{a:Act}{w w':World}(h:Rel N n0 m0 E e S a w)(hs:SR E' S' w')(hx:Ext S.length E S w E' S' w')(hl:S.length≤S'.length):Rel N n0 m0 E' e S' a w':=
 ⟨h.tmps.mono (hx.le h.sr),h.size,qeo.step hx h.defers,quF h.base hl,hs⟩
theorem qga{P:Program}{o:Oper}{k:K}(h:qbK P o=some k)(hx:∀x,k≠.ex x):qcb P o=some k:=by
 unfold qbK at h;split at h
 ·rename_i k' hk;cases h;exact hk
 ·cases hx':qeX P o with
  | none=>rw[hx'] at h;cases h
  | some x=>rw[hx'] at h;cases h;exact absurd rfl (hx x)
theorem qfl{P:Program}{dst:Option Tmp}{op:Op}{type:TypeId}{pos:String}{after:Array Edge}{guard:Option (Nat×Bool)}{f:Opd}{args:List Opd}(hk:qbK P ⟨dst,op,type,pos,after,guard⟩=some (.call f args)):
  ∃c f0,op=.call c∧c.callee=.value f0∧qam f0=some f∧c.args.toList.mapM qam=some args:=by
 replace hk:=qga hk (fun x=>by simp);by_cases hc:∃c,op=.call c
 ·obtain ⟨c,rfl⟩:=hc;simp only[qcb] at hk;split at hk
  ·rename_i f0 args' h1 h2
   cases h3:qam f0 with
   | none=>rw[h3] at hk;cases hk
   | some f1=>rw[h3] at hk;cases hk;exact ⟨c,f0,rfl,h1,h3,h2⟩
  ·exfalso;repeat' split at hk
   all_goals cases hk
  ·rename_i h1 h2;cases h3:qlB P c.argTypes <;> rw[h3] at hk <;> cases hk
  ·cases hk
 ·exfalso;cases op <;> first|(exact hc ⟨_,rfl⟩)|skip
  all_goals (simp only[qcb] at hk)
  all_goals (first|(cases hk;done)|(simp at hk;done)|(revert hk;repeat' split))
  all_goals (first|contradiction|(intro hk;cases hk;done)|(intro hk;simp at hk;done)|skip)
theorem qaS{F:Fence}{n:Nat}{P:Program}{ops:Array Oper}{Q Q':Exit→Act→World→Prop}(hq:∀x a w,Q x a w→Q' x a w):∀{l:List Oper} {a:Act} {w:World},wpListIn F n P ops Q l a w→wpListIn F n P ops Q' l a w
 | [],a,w,h=>hq _ _ _ h
 | o::l,a,w,h=>by
  have hlet:LetsOut Q→LetsOut Q':=fun ⟨a,w,h⟩=>⟨a,w,hq _ _ _ h⟩
  simp only[wpListIn] at h ⊢;split
  ·rename_i hw;rw[if_pos hw] at h;obtain ⟨h1,h2⟩:=h;refine ⟨h1,?_⟩;generalize (o.semAt F.round a.eval).run P w=r at h2 ⊢
   cases r with
   | ok nx w'=>
    cases nx <;> simp only[Oper.uponIn] at h2 ⊢
    case value v=>exact qaS hq h2
    case skip=>exact qaS hq h2
    case defer d=>exact qaS hq h2
    case enter f args=>exact ⟨h2.1,h2.2.mono fun e w'' he=>by cases e <;> first|exact qaS hq he|exact hq _ _ _ he|exact hlet he⟩
    case row r args=>exact ⟨h2.1,h2.2.mono fun v w'' he=>qaS hq he⟩
    case round l f t x y=>exact ⟨h2.1,h2.2.mono fun e w'' he=>by cases e <;> first|exact qaS hq he|exact hq _ _ _ he|exact hlet he⟩
   | halt x w'=>
    cases x <;> simp only[Oper.uponIn] at h2 ⊢
    case panic v=>exact hq _ _ _ h2
  ·rename_i hw;rw[if_neg hw] at h;exact ⟨h.1,qaS hq h.2⟩
theorem qg0{P:Program}{ro:Option Nat}{n:Nat}{o:Oper}{k:K}{E:En}{e:Env}{S S':St}{r:V}{a:Act}{w:World}{next:Act→World→Prop}{Q:Exit→Act→World→Prop}(hk:qbK P o=some k)(ht:Tmps E e a.tmps)(hs:SR E S w)(hev:evK e S k=some (r,S'))
  (hn:∀E' u w',VR E' r u→SR E' S' w'→Ext S.length E S w E' S' w'→S.length≤S'.length→next (a.put o.dst u) w'):o.wpIn (qb5 ro) n P a w next Q:=by
 refine ⟨fun f hf=>trivial,?_⟩;rw[show o.semAt (qb5 ro).round a.eval=execOp a.eval o from qbX hk];obtain ⟨nx,E',w',hrun,hnr,hsr,hext,hlen⟩:=qqL hk hev ht hs;rw[hrun];rcases hnr with ⟨u,rfl,hvr⟩|⟨rfl,rfl⟩
 ·exact hn E' u w' hvr hsr hext hlen
 ·exact hn E' undef w' (.tup (by simp) (fun i v u h=>by simp at h)) hsr hext hlen
theorem qtA{P:Program}{ro:Option Nat}{n:Nat}{o:Oper}{k:K}{E:En}{e:Env}{S:St}{a:Act}{w:World}{next:Act→World→Prop}{Q:Exit→Act→World→Prop}(hk:qbK P o=some k)(hnd:ndK e k≠[])(ht:Tmps E e a.tmps)(hs:SR E S w)
  (hn:∀v u,v∈ndK e k→VR E v u→next (a.put o.dst u) w):o.wpIn (qb5 ro) n P a w next Q:=by
 refine ⟨fun f hf=>trivial,?_⟩;rw[show o.semAt (qb5 ro).round a.eval=execOp a.eval o from qbX hk];obtain ⟨v,u,hv,hrun,hvr⟩:=qqC hk hnd ht hs;rw[hrun];exact hn v u hv hvr
theorem qsN{P:Program}{ro:Option Nat}{n:Nat}{o:Oper}{k:K}{E:En}{e:Env}{S:St}{a:Act}{w:World}{next:Act→World→Prop}{Q:Exit→Act→World→Prop}(hk:qbK P o=some k)(hnd:ndS e S k≠[])(ht:Tmps E e a.tmps)(hs:SR E S w)
  (hn:∀q E' u w',q∈ndS e S k→VR E' q.1 u→SR E' q.2 w'→Ext S.length E S w E' q.2 w'→S.length≤q.2.length→next (a.put o.dst u) w'):o.wpIn (qb5 ro) n P a w next Q:=by
 refine ⟨fun f hf=>trivial,?_⟩;rw[show o.semAt (qb5 ro).round a.eval=execOp a.eval o from qbX hk];obtain ⟨q,hq,nx,E',w',hrun,hnr,hsr,hext,hlen⟩:=qq6 hk hnd ht hs;rw[hrun];rcases hnr with ⟨u,rfl,hvr⟩|⟨rfl,hv⟩
 ·exact hn q E' u w' hq hvr hsr hext hlen
 ·exact hn q E' undef w' hq (by rw[hv];exact .tup (by simp) (fun i v u h=>by simp at h)) hsr hext hlen
theorem qk3{P:Program}{ro:Option Nat}{n:Nat}{o:Oper}{f:Opd}{args:List Opd}{kf:FuncId}{fs cs vs:List V}{R:V→St→Prop}{E:En}{e:Env}{S:St}{a:Act}{w:World}{next:Act→World→Prop}{Q:Exit→Act→World→Prop}(hk:qbK P o=some (.call f args))(ht:Tmps E e a.tmps)(hs:SR E S w)
  (hf:f.ev e=some (.fn (.func kf) fs cs)) (hvs:evs e args=some vs) (hspec:Spec P kf (fs++vs++cs) S R)
  (hn:∀r S' E' u w',R r S'→VR E' r u→SR E' S' w'→Ext S.length E S w E' S' w'→S.length≤S'.length→next (a.put o.dst u) w'):o.wpIn (qb5 ro) n P a w next Q:=by
 refine ⟨fun f hf=>trivial,?_⟩;rw[show o.semAt (qb5 ro).round a.eval=execOp a.eval o from qbX hk];obtain ⟨dst,op,type,pos,after,guard⟩:=o;obtain ⟨c,f0,rfl,h1,h2,h3⟩:=qfl hk;have hfv:=qaw ht h2 hf;obtain ⟨a1,a2⟩:=qcp ht h3 hvs;generalize hu:a.eval f0=u at hfv;have a1':vs.length=c.args.size:=by simpa using a1
 obtain ⟨us,ws,rfl,b1,b2,b3,b4⟩:∃us ws,u=.func (.func kf) us ws∧fs.length=us.size∧cs.length=ws.size∧(∀(i:Nat) (v:V) (u:Value),fs[i]?=some v→us[i]?=some u→VR E v u)∧(∀(i:Nat) (v:V) (u:Value),cs[i]?=some v→ws[i]?=some u→VR E v u):=by
  cases hfv with
  | fn h1 h2 g1 g2=>exact ⟨_,_,rfl,h1,h2,g1,g2⟩
 have hrun:(execOp a.eval ⟨dst,.call c,type,pos,after,guard⟩).run P w=.ok (.enter kf (us++c.args.map a.eval++ws)) w:=by
  simp only[execOp,resolve,h1,hu,Deferred.ofValue,Sem.run_bind,Sem.run_pure,Result.andThen,invoke];exact hspec.1 _ w
 rw[hrun];simp only[Oper.uponIn];refine ⟨fun hd=>by simp[qb5,Fence.wide] at hd,?_⟩
 have hargs:VRs E (fs++vs++cs) (us++c.args.map a.eval++ws):=by
  refine ⟨by simp[b1,b2,a1'],fun i v u hv hu=>?_⟩;rw[qt1] at hv;rw[Array.append_assoc] at hu;by_cases hi:i<fs.length
  ·rw[qtD hi] at hv;rw[quy (by omega)] at hu;exact b3 i v u hv hu
  ·rw[qtC (by omega)] at hv;rw[quT (by omega),←b1] at hu;by_cases hj:i - fs.length<vs.length
   ·rw[qtD hj] at hv;rw[quy (by simp;omega)] at hu;simp only[quU,qtK] at hu;obtain ⟨o,ho,rfl⟩:=hu;exact a2 _ v o hv (by simpa using ho)
   ·rw[qtC (by omega)] at hv;rw[quT (by simp;omega)] at hu;rw[show i - fs.length - (c.args.map a.eval).size=i - fs.length - vs.length by simp[a1']] at hu;exact b4 _ v u hv hu
 have hcalls:=hspec.2 E w _ (n - 1) hs hargs;refine CallsIn.mono (show CallsIn (qb5 ro) (n - 1) P kf _ w _ from hcalls) ?_;rintro ed w' ⟨uv,r,E',S',rfl,hR,hvr,hsr,hext,hlen⟩;exact hn r S' E' uv w' hR hvr hsr hext hlen
theorem qoj{P:Program}{ro:Option Nat}{n:Nat}{o:Oper}{f:Opd}{args:List Opd}{ly:Nat}{vs:List V}{R:V→St→Prop}{E:En}{e:Env}{S:St}{a:Act}{w:World}{next:Act→World→Prop}{Q:Exit→Act→World→Prop}(hk:qbK P o=some (.call f args))(ht:Tmps E e a.tmps)(hs:SR E S w)
    (hf:f.ev e=some (.yld ly)) (hvs:evs e args=some vs) (hspec:qbS P ly vs S R)
    (hn:∀r S' E' u w',R r S'→VR E' r u→SR E' S' w'→Ext S.length E S w E' S' w'→S.length≤S'.length→next (a.put o.dst u) w'):o.wpIn (qb5 ro) n P a w next Q:=by
  refine ⟨fun f hf=>trivial,?_⟩;rw[show o.semAt (qb5 ro).round a.eval=execOp a.eval o from qbX hk];obtain ⟨dst,op,type,pos,after,guard⟩:=o;obtain ⟨c,f0,rfl,h1,h2,h3⟩:=qfl hk;have hfv:=qaw ht h2 hf;obtain ⟨a1,a2⟩:=qcp ht h3 hvs;generalize hu:a.eval f0=u at hfv;have a1':vs.length=c.args.size:=by simpa using a1
  cases hfv with
  | yld hx=>
    rename_i x
    obtain ⟨fn,tmps,asg,body,hy,hround⟩:=hspec E w (c.args.map a.eval) (n - 1) x hs ⟨by simp[a1'],fun i v u hv hu=>by
      simp only[quU,qtK] at hu;obtain ⟨o,ho,rfl⟩:=hu;exact a2 _ v o hv (by simpa using ho)⟩ hx
    have hrun:(execOp a.eval ⟨dst,.call c,type,pos,after,guard⟩).run P w=.ok (.round x.b fn tmps asg body) w:=by
      simp only[execOp,resolve,h1,hu,Deferred.ofValue,Sem.run_bind,Sem.run_pure,Result.andThen,invoke,Array.empty_append];exact hy
    rw[hrun,Oper.uponIn_round];refine ⟨fun hd=>by simp[qb5,Fence.wide] at hd,?_⟩;refine RoundIn.mono (show RoundIn (qb5 ro) (n - 1) P _ _ _ _ _ w _ from hround) ?_;rintro ed w' ⟨uv,r,E',S',rfl,hR,hvr,hsr,hext,hlen⟩;exact hn r S' E' uv w' hR hvr hsr hext hlen
theorem qfV{P:Program}{N:Nat}{ops:Array Oper}{o:Oper}{o':O'}(h:qbr P N ops o=some o'):
  o'.dst=o.dst∧qjT N o.dst=true∧qbK P o=some o'.k∧∀(E:En) (e:Env) (a:Act) (b:Bool),(∀t w,o'.g=some (t,w)→∀v,e.get t=some v→∃u,a.tmps[t]?=some u∧VR E v u)→qaX e o'.g=some b→Region.wanted o (yielded ops a.tmps)=b:=by
 unfold qbr at h;split at h
 ·cases h
 rename_i k hk;split at h
 case isFalse=>cases h
 rename_i hd;split at h
 ·rename_i hgd;cases h;exact ⟨rfl,hd,hk,fun E e a b _ hb=>by cases hb;simp[Region.wanted,hgd]⟩
 ·rename_i j want hgd;split at h <;> cases h;rename_i t ht;refine ⟨rfl,hd,hk,fun E e a b hr hb=>?_⟩;simp only[qaX] at hb;split at hb <;> cases hb
  ·rename_i bb hbb;obtain ⟨u,hu,hv⟩:=hr _ _ rfl _ hbb;cases hv;simp[Region.wanted,hgd,yielded,ht,hu]
  ·rename_i hbb;obtain ⟨u,hu,hv⟩:=hr _ _ rfl _ hbb;cases hv;simp[Region.wanted,hgd,yielded,ht,hu]
theorem qbI{P:Program}{N n0 m0:Nat}{ro:Option Nat}{n:Nat}{ops:Array Oper}{Q:Post}:∀(l:List Oper) (l':List O') (E:En) (e:Env) (S:St) (a:Act) (w:World),
  l.mapM (qbr P N ops)=some l'→Rel N n0 m0 E e S a w→wops P l' (Q .normal) e S→wpListIn (qb5 ro) n P ops (Up N n0 m0 E S w Q) l a w
 | [],l',E,e,S,a,w,hc,hr,h=>by
  simp at hc;subst hc;exact ⟨E,e,S,hr,Ext.refl _ _ _ _,h⟩
 | o::l,l',E,e,S,a,w,hc,hr,h=>by
  simp only[quN,quw] at hc
  cases ho:qbr P N ops o with
  | none=>rw[ho] at hc;simp at hc
  | some o'=>
   rw[ho] at hc
   cases hl:l.mapM (qbr P N ops) with
   | none=>rw[hl] at hc;simp at hc
   | some l2=>
    rw[hl] at hc;simp at hc;subst hc;obtain ⟨hdst,hd,hk,hg⟩:=qfV ho;simp only[wops] at h;rw[hdst] at h
    cases hw:qaX e o'.g with
    | none=>rw[hw] at h;exact h.elim
    | some b=>
     rw[hw] at h;have hwd:=hg E e a b (fun t _ _ v hv=>hr.tmps t v hv) hw;simp only[wpListIn]
     cases b with
     | false=>
      rw[hwd];simp only[qua,if_false];refine ⟨fun f hf=>trivial,?_⟩;exact qbI l l2 E _ S _ w hl (hr.put hd (.tup (by simp) (fun i v u h=>by simp at h))) h
     | true=>
      rw[hwd];simp only[if_true];generalize hkk:o'.k=k at h hk;by_cases hcall:∃f args,k=.call f args
      ·obtain ⟨f,args,rfl⟩:=hcall;simp only at h;split at h <;> try exact h.elim
       ·rename_i kf fs cs vs hf hvs;obtain ⟨R,hspec,hnext⟩:=h;refine qk3 hk hr.tmps hr.sr hf hvs hspec fun r S' E' u w' hR hvr hsr hext hlen=>?_
        have hr':=(hr.step hsr hext hlen).put hd hvr;have:=qbI (n:=n) (ro:=ro) (Q:=Q) l l2 E' _ S' _ w' hl hr' (hnext r S' hR);exact qaS (fun x a' w'' hq=>hq.back (hext.less hr.base)) this
       ·rename_i ly vs hf hvs;obtain ⟨R,hspec,hnext⟩:=h;refine qoj hk hr.tmps hr.sr hf hvs hspec fun r S' E' u w' hR hvr hsr hext hlen=>?_
        have hr':=(hr.step hsr hext hlen).put hd hvr;have:=qbI (n:=n) (ro:=ro) (Q:=Q) l l2 E' _ S' _ w' hl hr' (hnext r S' hR);exact qaS (fun x a' w'' hq=>hq.back (hext.less hr.base)) this
      ·have h':match evK e S k with
        | some (r,S')=>wops P l2 (Q .normal) (e.put o.dst r) S'
        | none=>(ndK e k≠[]∧∀v,v∈ndK e k→wops P l2 (Q .normal) (e.put o.dst v) S)∨(ndS e S k≠[]∧∀q,q∈ndS e S k→wops P l2 (Q .normal) (e.put o.dst q.1) q.2):=by
        cases k <;> first|exact h|exact absurd ⟨_,_,rfl⟩ hcall
       cases hev:evK e S k with
       | none=>
        rw[hev] at h';rcases h' with h'|h'
        ·refine qtA hk h'.1 hr.tmps hr.sr fun v u hv hvr=>?_
         exact qbI l l2 E _ S _ w hl (hr.put hd hvr) (h'.2 v hv)
        ·refine qsN hk h'.1 hr.tmps hr.sr fun q E' u w' hq hvr hsr hext hlen=>?_
         have hr':=(hr.step hsr hext hlen).put hd hvr;have:=qbI (n:=n) (ro:=ro) (Q:=Q) l l2 E' _ q.2 _ w' hl hr' (h'.2 q hq);exact qaS (fun x a' w'' hq=>hq.back (hext.less hr.base)) this
       | some rs=>
        obtain ⟨r,S'⟩:=rs;rw[hev] at h';refine qg0 hk hr.tmps hr.sr hev fun E' u w' hvr hsr hext hlen=>?_
        have hr':=(hr.step hsr hext hlen).put hd hvr;have:=qbI (n:=n) (ro:=ro) (Q:=Q) l l2 E' _ S' _ w' hl hr' h';exact qaS (fun x a' w'' hq=>hq.back (hext.less hr.base)) this
theorem SR.phantom{E:En}{S:St}{w:World}(h:SR E S w){z:V}(h0:0<z.size):SR E (S++[.arr [z] z.size 1]) w∧∀n,Ext n E S w E (S++[.arr [z] z.size 1]) w:=by
 have hno:∀st,E.ρ S.length st=none:=fun st=>by
  cases hr:E.ρ S.length st with
  | none=>rfl
  | some x=>exact absurd (h.dom _ _ _ hr) (by omega)
 have hlv:∀l st x,live (S++[.arr [z] z.size 1]) l→E.ρ l st=some x→live S l:=fun l st x hl hx=>by
  rcases qdS hl with hl|rfl
  ·exact hl
  ·rw[hno] at hx;cases hx
 have hown:∀b,own E (S++[.arr [z] z.size 1]) b→own E S b:=fun b ⟨l,st,x,hl,hx,he⟩=>⟨l,st,x,hlv l st x hl hx,hx,he⟩
 refine ⟨⟨h.gl,h.I,fun l o ho=>?_,fun l st x hx=>by have:=h.dom _ _ _ hx;simp;omega,fun b o hb=>h.apart b o (hown b hb),fun b hb=>h.lt b (hown b hb),fun l l' st st' x x' hl hl' hx hx' he=>h.inj l l' st st' x x' (hlv l st x hl hx) (hlv l' st' x' hl' hx') hx hx' he⟩,
  fun n=>⟨qtH _,fun _ _ _ h=>h,fun _ _ _ _ h=>h,fun _ _ h=>h,fun b hb=>.inl (hown b hb),fun _ _ _ h=>.inl h,fun _ _ _=>rfl,rfl⟩⟩
 rcases qva l S.length with hl|hl
 ·rw[qtD hl] at ho;exact h.obs l o ho
 ·have hlt:=(qtB.1 ho).1;simp at hlt;have:l=S.length:=by omega
  subst this;simp at ho;subst ho;refine ⟨⟨h0,by simp⟩,fun v hv=>by simp at hv;subst hv;rfl,fun st x hx=>?_⟩;rw[hno] at hx;cases hx
def phs(zs:List V):St:=zs.map fun z=>.arr [z] z.size 1
theorem SR.phantoms{E:En}{w:World}:∀(zs:List V) {S:St},SR E S w→(∀z,z∈zs→0<z.size)→SR E (S++phs zs) w∧∀n,Ext n E S w E (S++phs zs) w
 | [],S,h,_=>by simp[phs];exact ⟨h,fun n=>Ext.refl _ _ _ _⟩
 | z::zs,S,h,h0=>by
  obtain ⟨a,b⟩:=h.phantom (h0 z (by simp));obtain ⟨c,d⟩:=SR.phantoms zs a fun z hz=>h0 z (by simp[hz])
  rw[qt1] at c d;exact ⟨c,fun n=>(b n).trans (d n)⟩
theorem SR.real{E:En}{S:St}{w:World}(h:SR E S w){l:Nat}{ob:Ob}{o:Obj}{st N sz:Nat}(hl:S[l]?=some ob)(hno:∀st,E.ρ l st=none)
  (ho:OR (E.at l st ⟨w.heap.size,N,sz⟩) { w with heap:=w.heap.push o } l ob):
  SR (E.at l st ⟨w.heap.size,N,sz⟩) S { w with heap:=w.heap.push o }∧E.le (E.at l st ⟨w.heap.size,N,sz⟩)∧
  ∀n,n≤l→Ext n E S w (E.at l st ⟨w.heap.size,N,sz⟩) S { w with heap:=w.heap.push o }:=by
 have hle:E.le (E.at l st ⟨w.heap.size,N,sz⟩):=qfp (hno st)
 have key:∀l' st' x,live S l'→(E.at l st ⟨w.heap.size,N,sz⟩).ρ l' st'=some x→(l'=l∧x.b=w.heap.size)∨(l'≠l∧E.ρ l' st'=some x∧x.b<w.heap.size):=by
  intro l' st' x hl' hx;by_cases hk:l'=l
  ·subst hk;by_cases hs:st'=st
   ·subst hs;rw[qa8] at hx;cases hx;exact .inl ⟨rfl,rfl⟩
   ·simp[En.at,hs,hno] at hx
  ·rw[qbD hk] at hx;exact .inr ⟨hk,hx,h.lt _ ⟨l',st',x,hl',hx,rfl⟩⟩
 have hown:∀b,own (E.at l st ⟨w.heap.size,N,sz⟩) S b→own E S b∨b=w.heap.size:=by
  rintro b ⟨l',st',x,hl',hx,rfl⟩;rcases key l' st' x hl' hx with ⟨_,h2⟩|⟨_,h2,_⟩
  ·exact .inr h2
  ·exact .inl ⟨l',st',x,hl',h2,rfl⟩
 refine ⟨⟨h.gl.old hle.1 (fun b _ _ _ hb _=>qbk (qdV hb)),?_,?_,?_,?_,?_,?_⟩,hle,fun n hn=>⟨by simp,hle.1,fun l st' x _ hx=>hle.2 l st' x hx,fun l' hl' hx st'=>by rw[qbD (by omega)];exact hx st',fun b hb=>(hown b hb).imp id (fun e=>by omega),fun b o c hc=>.inl hc,fun b hb _=>qbk hb,rfl⟩⟩
 ·intro b o' c hc;have:=h.I b o' c hc;rw[cell?_heap (qbk (cell?_lt this))];exact this
 ·intro l' o' hl';by_cases hk:l'=l
  ·subst hk;rw[hl] at hl';cases hl';exact ho
  ·by_cases hd:o'=.dead
   ·subst hd;trivial
   exact (h.obs l' o' hl').mono hle (fun st' x hx=>by rw[qbD hk] at hx;exact hx) (fun st' x hx=>qbk (h.lt _ ⟨l',st',x,⟨o',hl',hd⟩,hx,rfl⟩))
 ·intro l' st' x hx;by_cases hk:l'=l
  ·subst hk;exact (qtB.1 hl).1
  ·rw[qbD hk] at hx;exact h.dom _ _ _ hx
 ·intro b o' hb;rcases hown b hb with hb|rfl
  ·exact h.apart b o' hb
  ·cases hc:E.I w.heap.size o' with
   | none=>exact hc
   | some c=>exact absurd (cell?_lt (h.I _ _ _ hc)) (by omega)
 ·intro b hb;rcases hown b hb with hb|rfl
  ·have:=h.lt b hb;simp;omega
  ·simp
 ·intro l1 l2 st1 st2 x x' hl1 hl2 hx hx' hb;rcases key l1 st1 x hl1 hx with ⟨h1,h2⟩|⟨h1,h3,h4⟩ <;> rcases key l2 st2 x' hl2 hx' with ⟨g1,g2⟩|⟨g1,g3,g4⟩
  ·omega
  ·omega
  ·omega
  ·exact h.inj l1 l2 st1 st2 x x' hl1 hl2 h3 g3 hb
theorem SR.realBox{E:En}{S:St}{w:World}{l:Nat}{z:V}{d:Value}{t:TypeId}(h:SR E S w)(hl:S[l]?=some (.arr [z] z.size 1))(hno:∀st,E.ρ l st=none)(h0:0<z.size)(hf:(z.cells.all V.flat)=true)(hz:VR E z d):
  ∃E',SR E' S { w with heap:=w.heap.push (.cells d.cells t (0,0)) }∧E.le E'∧(∀n,n≤l→Ext n E S w E' S { w with heap:=w.heap.push (.cells d.cells t (0,0)) })∧(∀l' st,l'≠l→E'.ρ l' st=E.ρ l' st)∧VR E' (.ptr l 0 0 1) (.pointer (some ⟨w.heap.size,0,none⟩)):=by
 obtain ⟨h1,h2⟩:=hz.cells (qa2 hf)
 obtain ⟨n1,n2,n3⟩:=h.real (o:=.cells d.cells t (0,0)) (st:=1) (N:=d.cells.size) (sz:=z.size) hl hno (by
  refine ⟨⟨h0,by simp⟩,fun v hv=>by simp at hv;subst hv;rfl,fun st y hy hst=>?_⟩;by_cases hs1:st=1
  ·subst hs1;rw[qa8] at hy;cases hy;refine ⟨by simp,rfl,d.cells,t,qcT,rfl,by simp[V.size,h1],fun i v hv hi j c hc=>?_⟩;have hi0:i=0:=by omega
   subst hi0;simp at hv;subst hv;obtain ⟨e,he,hr⟩:=hz.cells_ex (qa2 hf) hc;exact ⟨e,by simpa using he,hr.mono (qfp (hno 1))⟩
  ·exfalso;simp only[En.at] at hy;rw[if_neg (by simp;exact hs1),hno] at hy;cases hy)
 refine ⟨_,n1,n2,n3,fun l' st hl'=>qbD hl',?_⟩;have:=VR.ptr (E:=E.at l 1 ⟨w.heap.size,d.cells.size,z.size⟩) (l:=l) (st:=1) 0 0 qa8;simpa using this
theorem qjV{P:Program}{o:Oper}{z:V}(h:qbK P o=some (.new z)):∃t i zv,o.op=.alloc t∧P.info? t=some i∧i.zero=some zv∧z=vOf zv:=by
 obtain ⟨dst,op,type,pos,after,guard⟩:=o;replace h:=qga h (fun x=>by simp);by_cases hc:∃t,op=.alloc t
 ·obtain ⟨t,rfl⟩:=hc;simp only[qcb] at h;split at h <;> try cases h
  rename_i i hi;split at h <;> cases h;rename_i z hz;exact ⟨t,i,z,rfl,hi,hz,rfl⟩
 ·exfalso;cases op <;> first|(exact hc ⟨_,rfl⟩)|skip
  all_goals (simp only[qcb] at h)
  all_goals (first|(cases h;done)|(simp at h;done)|(revert h;repeat' split))
  all_goals (first|contradiction|(intro h;cases h;done)|(intro h;simp at h;done)|skip)
theorem qrx{P:Program}{ro:Option Nat}{n:Nat}{o:Oper}{z:V}{E:En}{S:St}{a:Act}{w:World}{next:Act→World→Prop}{Q:Exit→Act→World→Prop}{l:Nat}(hk:qbK P o=some (.new z))(hs:SR E S w)(hl:S[l]?=some (.arr [z] z.size 1))(hno:∀st,E.ρ l st=none)(h0:0<z.size)(hf:(z.cells.all V.flat)=true)
  (hn:∀E' u w',VR E' (.ptr l 0 0 1) u→SR E' S w'→E.le E'→(∀n,n≤l→Ext n E S w E' S w')→(∀l' st,l'≠l→E'.ρ l' st=E.ρ l' st)→next (a.put o.dst u) w'):o.wpIn (qb5 ro) n P a w next Q:=by
 refine ⟨fun f hf=>trivial,?_⟩;rw[show o.semAt (qb5 ro).round a.eval=execOp a.eval o from qbX hk];obtain ⟨t,i,zv,hop,hi,hz,rfl⟩:=qjV hk;obtain ⟨E',b1,b2,b3,b4,b5⟩:=hs.realBox (t:=t) hl hno h0 hf (qdD E zv);obtain ⟨dst,op,type,pos,after,guard⟩:=o;cases hop
 have hrun:(execOp a.eval ⟨dst,.alloc t,type,pos,after,guard⟩).run P w=.ok (.value (.pointer (some ⟨w.heap.size,0,none⟩))) { w with heap:=w.heap.push (.cells zv.cells t (0,0)) }:=by
  have:(Instr.alloc t true (.tuple #[])).run P w=.ok (.pointer (some ⟨w.heap.size,0,none⟩)) { w with heap:=w.heap.push (.cells zv.cells t (0,0)) }:=by
   simp[Instr.alloc,newVar,Sem.run_bind,qaW hi hz,Result.andThen,qbY]
  simp only[execOp,Sem.run_bind,this,Result.andThen,Sem.run_pure]
 rw[hrun];exact hn E' _ _ b5 b1 b2 b3 b4
def K.tmps:K→List Nat
 | .mv x|.box x|.nck x|.un _ x|.fa _ x|.fld _ _ x|.ext _ x|.len _ x|.conv _ x|.ld _ x=>x.tmps
 | .pick c a b=>c.tmps++a.tmps++b.tmps
 | .new _=>[]
 | .build _ ps=>ps.flatMap fun p=>p.2.2.2.tmps
 | .bsl _ xs=>xs.flatMap Opd.tmps
 | .sto _ a x|.bin _ a x|.eq _ _ a x|.ia _ a x|.idx a x|.app _ _ a x=>a.tmps++x.tmps
 | .slc _ _ x lo hi=>x.tmps++lo.toList.flatMap Opd.tmps++hi.toList.flatMap Opd.tmps
 | .mkf _ fs cs=>fs.flatMap Opd.tmps++cs.flatMap Opd.tmps
 | .call f xs=>f.tmps++xs.flatMap Opd.tmps
 | .ex k=>k.tmps
def qdT(ts:List Nat)(e e':Env):Prop:=∀t,t∈ts→e'.get t=e.get t
theorem qdT.sub{ts us:List Nat}{e e':Env}(h:qdT ts e e')(hs:∀t,t∈us→t∈ts):qdT us e e':=fun t ht=>h t (hs t ht)
theorem qav{e e':Env}{x:Opd}(h:qdT x.tmps e e'):x.ev e'=x.ev e:=by
 cases x with
 | t n=>exact h n (by simp[Opd.tmps])
 | c v=>rfl
 | f k=>rfl
theorem qdm{e e':Env}:∀{xs:List Opd},qdT (xs.flatMap Opd.tmps) e e'→evs e' xs=evs e xs
 | [],_=>rfl
 | x::xs,h=>by
  simp only[evs]
  rw[qav (x:=x) (fun t ht=>h t (by simp[ht])),qdm (xs:=xs) (fun t ht=>h t (by
   simp only[quz,quh];exact .inr ht))]
theorem qdY{e e':Env}:∀{ps:List (Nat×Nat×Nat×Opd)},qdT (ps.flatMap fun p=>p.2.2.2.tmps) e e'→qah e' ps=qah e ps
 | [],_=>rfl
 | (f,o,n,x)::ps,h=>by
  simp only[qah]
  rw[qav (x:=x) (fun t ht=>h t (by simp[ht])),qdY (ps:=ps) (fun t ht=>h t (by
   simp only[quz,quh];exact .inr ht))]
theorem qfF{e e':Env}{x:Option Opd}(h:qdT (x.toList.flatMap Opd.tmps) e e'):qfJ e' x=qfJ e x:=by
 cases x with
 | none=>rfl
 | some x=>simp only[qfJ];rw[qav (x:=x) (fun t ht=>h t (by simpa using ht))]
theorem qht{e e':Env}{S:St}{k:X}(h:qdT k.tmps e e'):evX e' S k=evX e S k:=by
 cases k <;> simp only[X.tmps] at h <;> simp only[evX]
 case eqs n s os x y=>rw[qav (h.sub (us:=x.tmps) (by simp;grind)),qav (h.sub (us:=y.tmps) (by simp;grind))]
 case eqn n x=>rw[qav h]
 case lkp kd z ok x y=>rw[qav (h.sub (us:=x.tmps) (by simp;grind)),qav (h.sub (us:=y.tmps) (by simp;grind))]
 case mup kd x y z=>rw[qav (h.sub (us:=x.tmps) (by simp;grind)),qav (h.sub (us:=y.tmps) (by simp;grind)),qav (h.sub (us:=z.tmps) (by simp;grind))]
 case mks sz b z x y=>rw[qav (h.sub (us:=x.tmps) (by simp;grind)),qav (h.sub (us:=y.tmps) (by simp;grind))]
 case iaa n sz x y=>rw[qav (h.sub (us:=x.tmps) (by simp;grind)),qav (h.sub (us:=y.tmps) (by simp;grind))]
 case cts x=>rw[qav h]
 case ctb x=>rw[qav h]
 case rng x=>rw[qav h]
 case ent x=>rw[qav h]
 case wrap n x=>rw[qav h]
 case del kd x y=>rw[qav (h.sub (us:=x.tmps) (by simp;grind)),qav (h.sub (us:=y.tmps) (by simp;grind))]
 case ixa n sz kd x y=>rw[qav (h.sub (us:=x.tmps) (by simp;grind)),qav (h.sub (us:=y.tmps) (by simp;grind))]
 case mm m x y=>rw[qav (h.sub (us:=x.tmps) (by simp;grind)),qav (h.sub (us:=y.tmps) (by simp;grind))]
theorem qd7{e e':Env}{S:St}{k:K}(h:qdT k.tmps e e'):evK e' S k=evK e S k:=by
 cases k <;> simp only[K.tmps] at h <;> simp only[evK]
 case mv x=>rw[qav h]
 case pick c a b=>
  have ha:=qav (h.sub (us:=a.tmps) (by simp;grind));have hb:=qav (h.sub (us:=b.tmps) (by simp;grind));rw[qav (h.sub (us:=c.tmps) (by simp;grind))];split
  ·rename_i t _;cases t <;> simp[ha,hb]
  ·rfl
 case box x=>rw[qav h]
 case build z ps=>rw[qdY h]
 case bsl sz xs=>rw[qdm h]
 case ld k a=>rw[qav h]
 case sto n a x=>rw[qav (h.sub (us:=a.tmps) (by simp;grind)),qav (h.sub (us:=x.tmps) (by simp;grind))]
 case nck x=>rw[qav h]
 case bin op a x=>rw[qav (h.sub (us:=a.tmps) (by simp;grind)),qav (h.sub (us:=x.tmps) (by simp;grind))]
 case eq kd ng a x=>rw[qav (h.sub (us:=a.tmps) (by simp;grind)),qav (h.sub (us:=x.tmps) (by simp;grind))]
 case un op x=>rw[qav h]
 case fa op x=>rw[qav h]
 case ia sz a x=>rw[qav (h.sub (us:=a.tmps) (by simp;grind)),qav (h.sub (us:=x.tmps) (by simp;grind))]
 case idx a x=>rw[qav (h.sub (us:=a.tmps) (by simp;grind)),qav (h.sub (us:=x.tmps) (by simp;grind))]
 case fld o k x=>rw[qav h]
 case slc s sz x lo hi=>rw[qav (h.sub (us:=x.tmps) (by simp;grind)),qfF (h.sub (us:=lo.toList.flatMap Opd.tmps) (by simp;grind)),qfF (h.sub (us:=hi.toList.flatMap Opd.tmps) (by simp;grind))]
 case ext i x=>rw[qav h]
 case len s x=>rw[qav h]
 case app sz b a x=>rw[qav (h.sub (us:=a.tmps) (by simp;grind)),qav (h.sub (us:=x.tmps) (by simp;grind))]
 case mkf k fs cs=>rw[qdm (h.sub (us:=fs.flatMap Opd.tmps) (by simp;grind)),qdm (h.sub (us:=cs.flatMap Opd.tmps) (by simp;grind))]
 case conv k x=>rw[qav h]
 case ex k=>exact qht h
def K.writes:K→Bool
 | .new _|.box _|.sto ..|.app ..|.call ..=>true
 | .ex k=>k.writes
 | _=>false
theorem qjB{e:Env}{S S':St}{k:X}{r:V}(hw:k.writes=false)(h:evX e S k=some (r,S')):S'=S:=by
 cases k <;> simp only[X.writes,Bool.true_eq_false] at hw <;> simp only[evX] at h
 all_goals first
  | (simp only[quv] at h;obtain ⟨_,_,h⟩:=h)
  | skip
 all_goals (repeat' split at h)
 all_goals first
  | (cases h;done)
  | (simp only[qtK,Prod.mk.injEq] at h;obtain ⟨_,_,_,h⟩:=h;exact h.symm)
  | (simp only[Option.some.injEq,Prod.mk.injEq] at h;exact h.2.symm)
theorem qd4{e:Env}{S S':St}{k:K}{r:V}(hw:k.writes=false)(h:evK e S k=some (r,S')):S'=S:=by
 cases k <;> simp only[K.writes,Bool.true_eq_false] at hw <;> simp only[evK] at h
 case ex k=>exact qjB hw h
 all_goals first
  | (simp only[qtK,Prod.mk.injEq] at h;obtain ⟨_,_,_,h⟩:=h;exact h.symm)
  | skip
 all_goals first
  | (simp only[quv] at h;obtain ⟨_,_,h⟩:=h)
  | skip
 all_goals (repeat' split at h)
 all_goals first
  | (cases h;done)
  | (simp only[qtK,Prod.mk.injEq] at h;obtain ⟨_,_,_,h⟩:=h;exact h.symm)
  | (simp only[Option.some.injEq,Prod.mk.injEq] at h;exact h.2.symm)
def K.reads:K→Bool
 | .new _|.box _|.sto ..|.app ..|.call ..|.ld ..|.ia ..|.slc ..=>true
 | .ex k=>k.reads
 | _=>false
theorem qiK{e:Env}{S T:St}{k:X}(hr:k.reads=false):evX e T k=(evX e S k).map fun p=>(p.1,T):=by
 cases k <;> simp only[X.reads,Bool.true_eq_false] at hr <;> simp only[evX]
 case wrap n x=>
  cases x.ev e with
  | none=>rfl
  | some v=>simp only[qtT];split <;> rfl
 all_goals ((repeat' split) <;> first|rfl|(simp only[Option.map_map];rfl)|simp)
theorem qnY{e:Env}{S T:St}{k:K}(hr:k.reads=false):evK e T k=(evK e S k).map fun p=>(p.1,T):=by
 cases k <;> simp only[K.reads,Bool.true_eq_false] at hr <;> simp only[evK]
 case ex k=>exact qiK hr
 all_goals first
  | rfl
  | (simp only[Option.map_map];rfl)
  | (simp only[Option.map_bind];congr 1;funext v;simp only[Function.comp];first|rfl|(simp only[Option.map_map];rfl)|(repeat' split) <;> first|rfl|(simp only[Option.map_map];rfl))
  | ((repeat' split) <;> first|rfl|(simp only[Option.map_map];rfl)|simp)
structure D where
 o:O'
 w:Bool
 slot:Option Nat
 chk:Bool
 anc:List Nat
 lo:Nat
 hi:Nat
 deriving Inhabited
def O'.tmps(o:O'):List Nat:=o.k.tmps++(match o.g with|some (t,_)=>[t]|none=>[])
def wix(ds:List D):List Nat:=(List.range ds.length).filter fun i=>(ds[i]?.map D.w).getD false
def pos(ds:List D)(j:Nat):Nat:=(ds.take j).countP fun d=>d.w
def qbn(ds:List D)(i:Nat):Option Nat:=ds[i]?.bind fun d=>d.o.dst
def qfD(ds:List D)(i:Nat):List Nat:=(ds[i]?.map D.anc).getD []
def qcy(ds:List D)(i:Nat):Option Nat:=ds[i]?.bind fun d=>d.slot
def okD(ds:List D)(aft:List Nat)(j:Nat)(d:D):Bool:=
 (aft.all fun i=>decide (i<j)) &&
 (d.anc.all fun i=>aft.contains i || aft.any fun s=>(qfD ds s).contains i) &&
 (d.o.tmps.all fun t=>(List.range ds.length).all fun i=>!(qbn ds i==some t) || (d.anc.contains i && decide (i<j)) || (!d.chk && decide (j≤i) && (i==j || (qfD ds i).contains j))) &&
 (match d.o.dst with|none=>true|some t=>(List.range ds.length).all fun i=>i==j || !(qbn ds i==some t)) &&
 ((List.range d.lo).all fun p=>match (wix ds)[p]? with|some i=>d.anc.contains i|none=>false) &&
 ((List.range (wix ds).length).all fun p=>decide (p<d.hi) || (match (wix ds)[p]? with|some i=>i==j || (qfD ds i).contains j|none=>true)) &&
 (if d.w then (wix ds)[pos ds j]?==some j && d.lo==pos ds j else true) &&
 (match d.slot with
  | some s=>!d.w && d.chk && (match d.o.k with|.new _=>true|_=>false) && (List.range ds.length).all fun i=>i==j || !(qcy ds i==some s)
  | none=>d.w || !d.o.k.writes) &&
 (d.w || d.chk || (d.lo==pos ds j && d.hi==pos ds j) || (d.slot.isNone && !d.o.k.reads))
def Step(P:Program)(base:Nat)(e:Env)(S:St)(d:D)(v:V)(S':St):Prop:=
 (qaX e d.o.g=some false∧v=.tup []∧S'=S)∨
 (qaX e d.o.g=some true∧((∃s,d.slot=some s∧v=.ptr (base+s) 0 0 1∧S'=S)∨
  (d.slot=none∧((∃f args,d.o.k=.call f args)∨evK e S d.o.k=some (v,S')))))
def dwp(P:Program)(base:Nat):List D→(Env→List St→Prop)→Env→St→List St→Prop
 | [],K,e,_,H=>K e H
 | d::ds,K,e,S,H=>match qaX e d.o.g with
  | none=>False
  | some false=>dwp P base ds K (e.put d.o.dst (.tup [])) S (if d.w then H++[S] else H)
  | some true=>match d.slot with
   | some s=>dwp P base ds K (e.put d.o.dst (.ptr (base+s) 0 0 1)) S (if d.w then H++[S] else H)
   | none=>match d.o.k with
    | .call f args=>match f.ev e,evs e args with
     | some (.fn (.func k) fs cs),some vs=>∃R:V→St→Prop,Spec P k (fs++vs++cs) S R∧(∃v S',R v S')∧∀v S',R v S'→dwp P base ds K (e.put d.o.dst v) S' (if d.w then H++[S'] else H)
     | _,_=>False
    | k=>match evK e S k with
     | some (r,S')=>dwp P base ds K (e.put d.o.dst r) S' (if d.w then H++[S'] else H)
     | none=>False
def Tr(P:Program)(base:Nat):List D→Env→St→List St→Env→List St→Prop
 | [],e,_,H,ef,Hf=>ef=e∧Hf=H
 | d::ds,e,S,H,ef,Hf=>∃v S',Step P base e S d v S'∧Tr P base ds (e.put d.o.dst v) S' (if d.w then H++[S'] else H) ef Hf
theorem qd9{P:Program}{k:Nat}{args:List V}{S:St}{Φ:V→St→Prop}{v:V}{S':St}(h:Spec P k args S (fun r T=>r=v∧T=S'))(g:Φ v S'):∃R:V→St→Prop,Spec P k args S R∧(∃v S',R v S')∧∀v S',R v S'→Φ v S':=
 ⟨_,h,⟨v,S',rfl,rfl⟩,fun _ _ hh=>by obtain ⟨rfl,rfl⟩:=hh;exact g⟩
theorem qfT{e:Env}{d:Option Nat}{v:V}{t:Nat}:(e.put d v).get t=if d=some t then some v else e.get t:=by
 cases d with
 | none=>simp[Env.put]
 | some d=>simp[Env.put,Env.get]
theorem qfi{P:Program}{base:Nat}{t:Nat}:∀(ds:List D) (e:Env) (S:St) (H:List St) (ef:Env) (Hf:List St),Tr P base ds e S H ef Hf→(∀d,d∈ds→d.o.dst≠some t)→ef.get t=e.get t
 | [],e,S,H,ef,Hf,h,_=>by rw[h.1]
 | d::ds,e,S,H,ef,Hf,⟨v,S',h1,h2⟩,hd=>by
  rw[qfi ds _ _ _ _ _ h2 fun d' hd'=>hd d' (by simp[hd']),qfT,if_neg (hd d (by simp))]
theorem qfr{P:Program}{base:Nat}:∀(ds:List D) (e:Env) (S:St) (H:List St) (ef:Env) (Hf:List St),Tr P base ds e S H ef Hf→∃T,Hf=H++T∧T.length=ds.countP fun d=>d.w
 | [],e,S,H,ef,Hf,h=>⟨[],by simp[h.2],rfl⟩
 | d::ds,e,S,H,ef,Hf,⟨v,S',h1,h2⟩=>by
  obtain ⟨T,ht,hl⟩:=qfr ds _ _ _ _ _ h2;cases hw:d.w
  ·rw[hw] at ht;simp only[qua,if_false] at ht;exact ⟨T,ht,by rw[hl];simp[quX,hw]⟩
  ·rw[hw] at ht;simp only[if_true] at ht;exact ⟨S'::T,by rw[ht];simp,by simp[quX,hw,hl]⟩
theorem qbQ{e e':Env}{o:O'}(h:qdT o.tmps e e'):qaX e' o.g=qaX e o.g:=by
 cases hg:o.g with
 | none=>rfl
 | some p=>
  obtain ⟨t,w⟩:=p;simp only[qaX];rw[h t (by simp[O'.tmps,hg])]
structure Ok(ds:List D)(aft:Nat→List Nat)(j:Nat)(d:D):Prop where
 back:∀i,i∈aft j→i<j
 anc:∀i,i∈d.anc→i∈aft j∨∃s,s∈aft j∧i∈qfD ds s
 tmps:∀t,t∈d.o.tmps→∀i,qbn ds i=some t→(i∈d.anc∧i<j)∨(d.chk=false∧j≤i∧(i=j∨j∈qfD ds i))
 dst:∀t,d.o.dst=some t→∀i,i≠j→qbn ds i≠some t
 lo:∀p,p<d.lo→∃i,(wix ds)[p]?=some i∧i∈d.anc
 hi:∀p i,d.hi≤p→(wix ds)[p]?=some i→i=j∨j∈qfD ds i
 wr:d.w=true→(wix ds)[pos ds j]?=some j∧d.lo=pos ds j
 slot:∀s,d.slot=some s→d.w=false∧d.chk=true∧(∃z,d.o.k=.new z)∧∀i,i≠j→qcy ds i≠some s
 noslot:d.slot=none→d.w=true∨d.o.k.writes=false
 nochk:d.w=true∨d.chk=true∨(d.lo=pos ds j∧d.hi=pos ds j)∨(d.slot=none∧d.o.k.reads=false)
theorem qgY{ds:List D}{i t:Nat}(h:qbn ds i=some t):i<ds.length:=by
 unfold qbn at h
 cases hd:ds[i]? with
 | none=>rw[hd] at h;cases h
 | some d=>exact (qtB.1 hd).1
theorem qhY{ds:List D}{i t:Nat}(h:qcy ds i=some t):i<ds.length:=by
 unfold qcy at h
 cases hd:ds[i]? with
 | none=>rw[hd] at h;cases h
 | some d=>exact (qtB.1 hd).1
theorem qoe{ds:List D}{aft:Nat→List Nat}{j:Nat}{d:D}(h:okD ds (aft j) j d=true):Ok ds aft j d:=by
 unfold okD at h;simp only[qtJ] at h;obtain ⟨⟨⟨⟨⟨⟨⟨⟨h1,h2⟩,h3⟩,h4⟩,h5⟩,h6⟩,h7⟩,h8⟩,h9⟩:=h;simp only[qtY,decide_eq_true_eq,List.mem_range,Bool.or_eq_true,List.contains_iff_mem,qvb,qtJ,Bool.not_eq_true',beq_eq_false_iff_ne,ne_eq] at h1 h2 h3 h5 h6;refine ⟨h1,h2,fun t ht i hi=>?_,fun t ht i hi hne=>?_,fun p hp=>?_,fun p i hp hi=>?_,fun hw=>?_,fun s hs=>?_,fun hs=>?_,?_⟩
 ·rcases h3 t ht i (qgY hi) with (h|h)|⟨⟨h,h'⟩,h''⟩
  ·exact absurd hi h
  ·exact .inl h
  ·exact .inr ⟨h,h',by simpa using h''⟩
 ·rw[ht] at h4;simp only[qtY,List.mem_range,Bool.or_eq_true,beq_iff_eq,Bool.not_eq_true',beq_eq_false_iff_ne,ne_eq] at h4;exact (h4 i (qgY hne)).elim (fun h=>hi h) (fun h=>h hne)
 ·have:=h5 p hp;split at this
  ·rename_i i hi;exact ⟨i,hi,by simpa using this⟩
  ·cases this
 ·have hlt:=(qtB.1 hi).1;have:=(h6 p hlt).resolve_left (by omega);rw[hi] at this;simpa using this
 ·rw[if_pos hw] at h7;simp only[qtJ,beq_iff_eq] at h7;exact h7
 ·rw[hs] at h8;simp only[qtJ,qtY,List.mem_range,Bool.or_eq_true,beq_iff_eq,Bool.not_eq_true',beq_eq_false_iff_ne,ne_eq] at h8;obtain ⟨⟨⟨a,b⟩,c⟩,e⟩:=h8;refine ⟨by simpa using a,b,?_,fun i hi hne=>(e i (qhY hne)).elim (fun h=>hi h) (fun h=>h hne)⟩;split at c
  ·rename_i z hz;exact ⟨z,hz⟩
  ·cases c
 ·rw[hs] at h8;simpa using h8
 ·simp only[Bool.or_eq_true,qtJ,beq_iff_eq] at h9;rcases h9 with ((h9|h9)|h9)|h9
  ·exact .inl h9
  ·exact .inr (.inl h9)
  ·exact .inr (.inr (.inl h9))
  ·exact .inr (.inr (.inr (by simpa using h9)))
theorem qjH{P:Program}{base:Nat}{all:List D}{aft:Nat→List Nat}{e0:Env}(ok:∀j d,all[j]?=some d→Ok all aft j d):∀(ds:List D) (k:Nat) (e:Env) (S:St) (H:List St) (ef:Env) (Hf:List St),all.drop k=ds→
  H.length=pos all k+1→H[pos all k]?=some S→Tr P base ds e S H ef Hf→(∀t,(∀i,i<k→qbn all i≠some t)→e.get t=e0.get t)→∀j d,k≤j→all[j]?=some d→∃T v T' ej,Hf[pos all j]?=some T∧Step P base ej T d v T'∧(∀t,d.o.dst=some t→ef.get t=some v)∧(d.w=true→Hf[pos all j+1]?=some T')∧
   (∀t,t∈d.o.tmps→(∀i,qbn all i=some t→i<j)→ej.get t=ef.get t)∧(∀t i,j≤i→qbn all i=some t→ej.get t=e0.get t)
 | [],k,e,S,H,ef,Hf,hd,hl,hS,h,he0,j,d,hj,hjd=>by
  have:=(qtB.1 hjd).1;have h0:(all.drop k).length=0:=by rw[hd];rfl
  simp at h0;omega
 | d0::ds,k,e,S,H,ef,Hf,hd,hl,hS,⟨v,S',h1,h2⟩,he0,j,d,hj,hjd=>by
  have hk:all[k]?=some d0:=by
   have:(all.drop k)[0]?=some d0:=by rw[hd];rfl
   simpa using this
  have hk1:all.drop (k+1)=ds:=by
   rw[←List.drop_drop,hd];rfl
  have hdk:=hd
  have hpos:pos all (k+1)=pos all k+if d0.w=true then 1 else 0:=by
   unfold pos;rw[qtQ,hk];simp[List.countP_append,quX]
  have hok:=ok k d0 hk
  have hin:∀d',d'∈ds→∃i,k<i∧all[i]?=some d':=fun d' hd'=>by
   obtain ⟨i,hi⟩:=qub hd';rw[←hk1,qun] at hi;exact ⟨k+1+i,by omega,hi⟩
  have hag:∀t,t∈d0.o.tmps→(∀i,qbn all i=some t→i<k)→e.get t=ef.get t:=fun t ht hlt=>by
   refine (qfi (P:=P) (base:=base) (t:=t) (d0::ds) e S H ef Hf ⟨v,S',h1,h2⟩ fun d' hd' hdd=>?_).symm
   have:∃i,k≤i∧all[i]?=some d':=by
    rcases quc.1 hd' with rfl|hd'
    ·exact ⟨k,qtH _,hk⟩
    ·obtain ⟨i,hi,hi'⟩:=hin d' hd';exact ⟨i,by omega,hi'⟩
   obtain ⟨i,hi,hi'⟩:=this;have:=hlt i (by simp[qbn,hi',hdd]);omega
  have hold:∀t i,k≤i→qbn all i=some t→e.get t=e0.get t:=fun t i hi hit=>he0 t fun i' hi' hit'=>by
   obtain ⟨d',hd',hdd⟩:∃d',all[i]?=some d'∧d'.o.dst=some t:=by
    unfold qbn at hit
    cases hx:all[i]? with
    | none=>rw[hx] at hit;cases hit
    | some d'=>rw[hx] at hit;exact ⟨d',rfl,hit⟩
   exact (ok i d' hd').dst t hdd i' (by omega) hit'
  have hdst:∀t,d0.o.dst=some t→ef.get t=some v:=fun t ht=>by
   rw[qfi ds _ _ _ _ _ h2 fun d' hd' hdd=>by
    obtain ⟨i,hi,hi'⟩:=hin d' hd';exact hok.dst t ht i (by omega) (by simp[qbn,hi',hdd]),qfT,if_pos ht]
  obtain ⟨T0,hT0,_⟩:=qfr ds _ _ _ _ _ h2;rcases qva k j with hlt|hge
  ·refine qjH ok ds (k+1) _ S' _ ef Hf hk1 ?_ ?_ h2 ?_ j d hlt hjd
   ·cases hw:d0.w <;> simp[hw] at hpos ⊢<;> omega
   rotate_left
   ·intro t ht;rw[qfT,if_neg (fun hdd=>ht k (by omega) (by simp[qbn,hk,hdd]))];exact he0 t fun i hi=>ht i (by omega)
   ·cases hw:d0.w
    ·simp only[hw,qua,if_false] at hpos ⊢
     have:S'=S:=by
      rcases h1 with ⟨_,_,h⟩|⟨_,h⟩
      ·exact h
      ·rcases h with ⟨s,_,_,h⟩|⟨hs,h⟩
       ·exact h
       ·have hnw:=(hok.noslot hs).resolve_left (by simp[hw]);rcases h with ⟨f,args,hkk⟩| h
        ·rw[hkk] at hnw;simp[K.writes] at hnw
        ·exact qd4 hnw h
     rw[this,hpos];exact hS
    ·simp only[hw,if_true] at hpos ⊢;rw[hpos,qtC (by omega),hl];simp
  ·have hjk:j=k:=by omega
   subst hjk;rw[hk] at hjd;cases hjd;refine ⟨S,v,S',e,?_,h1,hdst,fun hw=>?_,hag,hold⟩
   ·rw[hT0];have:pos all j<H.length:=by omega
    split
    ·rw[qt1,qtD this];exact hS
    ·rw[qtD this];exact hS
   ·rw[hT0,if_pos hw,qt1,qtC (by omega),hl];simp
structure EnvAt(ds:List D)(e0:Env)(i:Nat)(d:D)(ei ef:Env):Prop where
 f5:∀t,t∈d.o.tmps→(∀s,qbn ds s=some t→s<i)→ei.get t=ef.get t
 f6:∀t s,i≤s→qbn ds s=some t→ei.get t=e0.get t
def qqI(d:D)(q:Nat)(v:V)(S':St)(ef:Env)(Hf:List St):Prop:=(∀t,d.o.dst=some t→ef.get t=some v)∧Hf[q+1]?=some S'
def Det(e:Env)(S:St)(d:D)(v:V)(S':St):Prop:=
 (qaX e d.o.g=some false∧v=.tup []∧S'=S)∨(qaX e d.o.g=some true∧d.slot=none∧evK e S d.o.k=some (v,S'))
def qg1(P:Program)(ds:List D)(e0:Env):Nat→Nat→(Env→List St→Prop)→Prop
 | 0,_,C=>∃ef Hf,C ef Hf
 | m+1,q,C=>(∃ef Hf,C ef Hf)∧∃i d ei T,(wix ds)[q]?=some i∧ds[i]?=some d∧(∀ef Hf,C ef Hf→Hf[q]?=some T∧EnvAt ds e0 i d ei ef)∧
  ((∃v S',Det ei T d v S'∧(∀ef Hf,C ef Hf→qqI d q v S' ef Hf)∧qg1 P ds e0 m (q+1) C)∨
   (∃f args k fs cs vs,∃R:V→St→Prop,qaX ei d.o.g=some true∧d.slot=none∧d.o.k=.call f args∧f.ev ei=some (.fn (.func k) fs cs)∧evs ei args=some vs∧Spec P k (fs++vs++cs) T R∧
    ∀v S',R v S'→∃C':Env→List St→Prop,(∀ef Hf,C' ef Hf→C ef Hf∧qqI d q v S' ef Hf)∧qg1 P ds e0 m (q+1) C'))
theorem qg1.some{P:Program}{ds:List D}{e0:Env}{m q:Nat}{C:Env→List St→Prop}(h:qg1 P ds e0 m q C):∃ef Hf,C ef Hf:=by
 cases m with
 | zero=>exact h
 | succ m=>exact h.1
theorem qnN{all:List D}{k:Nat}{d:D}(hk:all[k]?=some d):pos all (k+1)=pos all k+if d.w=true then 1 else 0:=by
 unfold pos;rw[qtQ,hk];simp[List.countP_append,quX]
section
variable {P:Program} {base:Nat} {all:List D} {aft:Nat→List Nat} {e0:Env} (ok:∀j d,all[j]?=some d→Ok all aft j d)
include ok
theorem qo0{d:D}{ds:List D}{k:Nat}{e:Env}{S:St}{H:List St}{ef:Env}{Hf:List St}(hd:all.drop k=d::ds)(h:Tr P base (d::ds) e S H ef Hf)(he0:∀t,(∀i,i<k→qbn all i≠some t)→e.get t=e0.get t):EnvAt all e0 k d e ef:=by
 have hk:all[k]?=some d:=by
  have:(all.drop k)[0]?=some d:=by rw[hd];rfl
  simpa using this
 refine ⟨fun t ht hlt=>(qfi (P:=P) (base:=base) (t:=t) (d::ds) e S H ef Hf h fun d' hd' hdd=>?_).symm,fun t i hi hit=>he0 t fun i' hi' hit'=>?_⟩
 ·obtain ⟨i,hi⟩:=qub hd';rw[←hd,qun] at hi;have:=hlt (k+i) (by simp[qbn,hi,hdd]);omega
 ·obtain ⟨d',hd',hdd⟩:∃d',all[i]?=some d'∧d'.o.dst=some t:=by
   unfold qbn at hit
   cases hx:all[i]? with
   | none=>rw[hx] at hit;cases hit
   | some d'=>rw[hx] at hit;exact ⟨d',rfl,hit⟩
  exact (ok i d' hd').dst t hdd i' (by omega) hit'
theorem qoV{d:D}{ds:List D}{k:Nat}{e:Env}{S':St}{v:V}{H:List St}{ef:Env}{Hf:List St}(hd:all.drop k=d::ds)(hl:H.length=pos all k+1)(h:Tr P base ds (e.put d.o.dst v) S' (H++[S']) ef Hf):qqI d (pos all k) v S' ef Hf:=by
 have hk:all[k]?=some d:=by
  have:(all.drop k)[0]?=some d:=by rw[hd];rfl
  simpa using this
 have hk1:all.drop (k+1)=ds:=by
  rw[←List.drop_drop,hd];rfl
 constructor
 ·intro t ht
  rw[qfi ds _ _ _ _ _ h fun d' hd' hdd=>by
   obtain ⟨i,hi⟩:=qub hd';rw[←hk1,qun] at hi;exact (ok k d hk).dst t ht (k+1+i) (by omega) (by simp[qbn,hi,hdd]),qfT,if_pos ht]
 ·obtain ⟨T0,hT0,_⟩:=qfr ds _ _ _ _ _ h;rw[hT0,qt1,qtC (by omega),hl];simp
theorem qe3{K:Env→List St→Prop}:∀(ds:List D) (k:Nat) (e:Env) (S:St) (H:List St),all.drop k=ds→H.length=pos all k+1→H[pos all k]?=some S→(∀t,(∀i,i<k→qbn all i≠some t)→e.get t=e0.get t)→
  dwp P base ds K e S H→∃C:Env→List St→Prop,(∀ef Hf,C ef Hf→K ef Hf∧Tr P base ds e S H ef Hf)∧qg1 P all e0 (ds.countP fun d=>d.w) (pos all k) C
 | [],k,e,S,H,_,_,_,_,h=>⟨fun ef Hf=>ef=e∧Hf=H,fun ef Hf hc=>⟨by rw[hc.1,hc.2];exact h,hc⟩,e,H,rfl,rfl⟩
 | d::ds,k,e,S,H,hd,hl,hS,he0,h=>by
  have hk:all[k]?=some d:=by
   have:(all.drop k)[0]?=some d:=by rw[hd];rfl
   simpa using this
  have hk1:all.drop (k+1)=ds:=by
   rw[←List.drop_drop,hd];rfl
  have hpos:=qnN hk
  have he1:∀v t,(∀i,i<k+1→qbn all i≠some t)→(e.put d.o.dst v).get t=e0.get t:=fun v t ht=>by
   rw[qfT,if_neg (fun hdd=>ht k (by omega) (by simp[qbn,hk,hdd]))];exact he0 t fun i hi=>ht i (by omega)
  have one:∀(v:V) (S':St),Step P base e S d v S'→(d.w=true→Det e S d v S')→(d.w=false→S'=S)→dwp P base ds K (e.put d.o.dst v) S' (if d.w then H++[S'] else H)→
    ∃C:Env→List St→Prop,(∀ef Hf,C ef Hf→K ef Hf∧Tr P base (d::ds) e S H ef Hf)∧qg1 P all e0 ((d::ds).countP fun d=>d.w) (pos all k) C:=by
   intro v S' hst hdt hsm h;cases hw:d.w
   ·rw[hw] at h;simp only[qua,if_false] at h;obtain ⟨C,h1,h2⟩:=qe3 ds (k+1) _ S' H hk1 (by rw[hpos,hw];simpa using hl) (by rw[hpos,hw,hsm hw];simpa using hS) (he1 v) h;refine ⟨C,fun ef Hf hc=>⟨(h1 ef Hf hc).1,v,S',hst,by rw[hw];exact (h1 ef Hf hc).2⟩,?_⟩;rw[hpos,hw] at h2;rw[quX,hw];exact h2
   ·rw[hw] at h;simp only[if_true] at h;obtain ⟨C,h1,h2⟩:=qe3 ds (k+1) _ S' (H++[S']) hk1 (by rw[hpos,hw];simp[hl]) (by rw[hpos,hw];simp[←hl]) (he1 v) h;refine ⟨C,fun ef Hf hc=>⟨(h1 ef Hf hc).1,v,S',hst,by rw[hw];exact (h1 ef Hf hc).2⟩,?_⟩;rw[hpos,hw] at h2;rw[quX,hw];refine ⟨h2.some,k,d,e,S,(ok k d hk).wr hw |>.1,hk,fun ef Hf hc=>⟨?_,?_⟩,.inl ⟨v,S',hdt hw,fun ef Hf hc=>qoV ok hd hl (h1 ef Hf hc).2,h2⟩⟩
    ·obtain ⟨T0,hT0,_⟩:=qfr ds _ _ _ _ _ (h1 ef Hf hc).2;rw[hT0,qt1,qtD (by omega)];exact hS
    ·exact qo0 ok hd (H:=H) ⟨v,S',hst,by rw[hw];exact (h1 ef Hf hc).2⟩ he0
  simp only[dwp] at h;split at h
  ·exact h.elim
  ·rename_i hw;exact one (.tup []) S (.inl ⟨hw,rfl,rfl⟩) (fun _=>.inl ⟨hw,rfl,rfl⟩) (fun _=>rfl) h
  ·rename_i hw;split at h
   ·rename_i s hs;exact one _ S (.inr ⟨hw,.inl ⟨s,hs,rfl,rfl⟩⟩) (fun hdw=>by rw[((ok k d hk).slot s hs).1] at hdw;cases hdw) (fun _=>rfl) h
   ·rename_i hs;split at h
    ·rename_i f args hkc;have hdw:d.w=true:=((ok k d hk).noslot hs).resolve_right (by rw[hkc];simp[Go.Proofs.YtbifpocccfkhhaaGreatDoor.K.writes]);split at h <;> try exact h.elim
     rename_i kf fs cs vs hf hvs;obtain ⟨R,hsp,⟨v0,S0',hR0⟩,h⟩:=h;rw[hdw] at h;simp only[if_true] at h
     have all':∀(v:V) (S':St),R v S'→∃C:Env→List St→Prop,(∀ef Hf,C ef Hf→K ef Hf∧Tr P base ds (e.put d.o.dst v) S' (H++[S']) ef Hf)∧qg1 P all e0 (ds.countP fun d=>d.w) (pos all k+1) C:=fun v S' hR=>by
      rw[←show pos all (k+1)=pos all k+1 by rw[hpos,hdw];rfl];exact qe3 ds (k+1) _ S' (H++[S']) hk1 (by rw[hpos,hdw];simp[hl]) (by rw[hpos,hdw];simp[←hl]) (he1 v) (h v S' hR)
     have tr:∀(v:V) (S':St) (ef:Env) (Hf:List St),Tr P base ds (e.put d.o.dst v) S' (H++[S']) ef Hf→Tr P base (d::ds) e S H ef Hf:=fun v S' ef Hf ht=>
      ⟨v,S',.inr ⟨hw,.inr ⟨hs,.inl ⟨f,args,hkc⟩⟩⟩,by rw[hdw];exact ht⟩
     refine ⟨fun ef Hf=>∃(v:V) (S':St) (hR:R v S'),Classical.choose (all' v S' hR) ef Hf,fun ef Hf ⟨v,S',hR,hc⟩=>?_,?_⟩
     ·have:=(Classical.choose_spec (all' v S' hR)).1 ef Hf hc;exact ⟨this.1,tr _ _ _ _ this.2⟩
     ·rw[quX,hdw];refine ⟨?_,k,d,e,S,(ok k d hk).wr hdw |>.1,hk,fun ef Hf ⟨v,S',hR,hc⟩=>⟨?_,?_⟩,.inr ⟨f,args,kf,fs,cs,vs,R,hw,hs,hkc,hf,hvs,hsp,fun v S' hR=>⟨Classical.choose (all' v S' hR),fun ef Hf hc=>⟨⟨v,S',hR,hc⟩,?_⟩,?_⟩⟩⟩
      ·obtain ⟨ef,Hf,hc⟩:=(Classical.choose_spec (all' v0 S0' hR0)).2.some;exact ⟨ef,Hf,v0,S0',hR0,hc⟩
      ·have:=(Classical.choose_spec (all' v S' hR)).1 ef Hf hc;obtain ⟨T0,hT0,_⟩:=qfr ds _ _ _ _ _ this.2;rw[hT0,qt1,qtD (by omega)];exact hS
      ·have:=(Classical.choose_spec (all' v S' hR)).1 ef Hf hc;exact qo0 ok hd (tr _ _ _ _ this.2) he0
      ·exact qoV ok hd hl ((Classical.choose_spec (all' v S' hR)).1 ef Hf hc).2
      ·exact (Classical.choose_spec (all' v S' hR)).2
    ·split at h <;> try exact h.elim
     rename_i r S' hev;refine one r S' (.inr ⟨hw,.inr ⟨hs,.inr hev⟩⟩) (fun _=>.inr ⟨hw,hs,hev⟩) (fun hdw=>?_) h;exact qd4 (((ok k d hk).noslot hs).resolve_left (by simp[hdw])) hev
end
def dchk(base:Nat)(ef:Env)(H:List St)(d:D):Prop:=
 ∀q,d.lo≤q→q≤d.hi→∀T,H[q]?=some T→match d.slot with
  | some s=>match d.o.k with
   | .new z=>T[base+s]?=some (.arr [z] z.size 1)∧0<z.size∧(z.cells.all V.flat)=true
   | _=>False
  | none=>∃v,evK ef T d.o.k=some (v,T)∧∀t,d.o.dst=some t→ef.get t=some v
def qqM(base:Nat)(ef:Env)(H:List St)(ds:List D):Prop:=∀d,d∈ds→d.chk=true→d.w=false→qaX ef d.o.g=some true→dchk base ef H d
def qnQ(P:Program)(N:Nat)(ops:Array Oper)(ds:List D):Bool:=
 decide (ds.length=ops.size) && (List.range ds.length).all fun j=>match ds[j]?,ops[j]? with
  | some d,some o=>okD ds ((o.after.toList.filter fun e=>Region.binds .any e).map fun e=>e.on) j d
  | _,_=>false
def qb6(ops:Array Oper)(j:Nat):List Nat:=match ops[j]? with
 | some o=>(o.after.toList.filter fun e=>Region.binds .any e).map fun e=>e.on
 | none=>[]
theorem qkh{P:Program}{N:Nat}{ops:Array Oper}{ds:List D}(h:qnQ P N ops ds=true):ds.length=ops.size∧∀j d,ds[j]?=some d→Ok ds (qb6 ops) j d:=by
 unfold qnQ at h;simp only[qtJ,decide_eq_true_eq,qtY,List.mem_range] at h;refine ⟨h.1,fun j d hj=>?_⟩;have hlt:=(qtB.1 hj).1;have:=h.2 j hlt;rw[hj] at this
 cases ho:ops[j]? with
 | none=>rw[ho] at this;simp at this
 | some o=>
  rw[ho] at this;refine qoe (aft:=qb6 ops) ?_;simpa[qb6,ho] using this
structure Inv(ds:List D)(N n0 m0 base:Nat)(e0 ef:Env)(Hf:List St)(E0:En)(S0:St)(w0:World)(listed:Array Bool)(q:Nat)(E:En)(S:St)(a:Act)(w:World):Prop where
 size:listed.size=ds.length
 closed:∀j d,ds[j]?=some d→listed.getD j false=true→∀i,i∈d.anc→listed.getD i false=true
 num:∀p i,(wix ds)[p]?=some i→(listed.getD i false=true↔p<q)
 qle:q≤(wix ds).length
 st:Hf[q]?=some S
 tmps:∀t v,ef.get t=some v→(∀i,qbn ds i=some t→listed.getD i false=true)→∃u,a.tmps[t]?=some u∧VR E v u
 tmps0:∀t v,e0.get t=some v→(∀i,qbn ds i=some t→listed.getD i false=false)→∃u,a.tmps[t]?=some u∧VR E v u
 slots:∀i s,qcy ds i=some s→listed.getD i true=false→∀st,E.ρ (base+s) st=none
 N:a.tmps.size=N
 defers:qeo m0 E S w a.defers
 sr:SR E S w
 len:base≤S.length
 room:∀i s,qcy ds i=some s→base+s<S.length
 ext:Ext n0 E0 S0 w0 E S w
theorem qck{l:Array Bool}{i:Nat}:l.getD i true=false↔∃h:i<l.size,l[i]=false:=by
 simp only[Array.getD];split
 ·rename_i h;simp[h]
 ·rename_i h;simp[h]
theorem qch{l:Array Bool}{i:Nat}:l.getD i false=true↔∃h:i<l.size,l[i]=true:=by
 simp only[Array.getD];split
 ·rename_i h;simp[h]
 ·rename_i h;simp[h]
theorem qct{l:Array Bool}{j i:Nat}(hj:j<l.size):(l.setIfInBounds j true).getD i false=true↔i=j∨l.getD i false=true:=by
 by_cases h:j=i
 ·subst h;simp[hj]
 ·rw[getD_set_ne false h];exact ⟨.inr,fun h'=>h'.resolve_left (fun e=>h e.symm)⟩
theorem count_set{l:Array Bool}{j:Nat}(hj:l.getD j true=false):(l.setIfInBounds j true).toList.count false+1=l.toList.count false:=by
 obtain ⟨h,hv⟩:=qck.1 hj;have:(l.setIfInBounds j true).toList=l.toList.set j true:=by simp
 have hlt:j<l.toList.length:=by simpa using h
 have h1:l.toList[j]=false:=by simpa using hv
 have h2:0<l.toList.count false:=List.count_pos_iff.2 (by rw[←h1];exact qtM _);rw[this,List.count_set hlt,h1];rw[show (if (true==false)=true then 1 else 0)=0 from rfl,show (if (false==false)=true then 1 else 0)=1 from rfl];omega
theorem qlb{l:Array Bool}(h:l.toList.count false=0){i:Nat}(hi:i<l.size):l.getD i false=true:=by
 rw[List.count_eq_zero] at h;refine qch.2 ⟨hi,?_⟩
 cases hb:l[i] with
 | true=>rfl
 | false=>exact absurd (by rw[←hb];simp) h
theorem qhb{ds:List D}{p i:Nat}(h:(wix ds)[p]?=some i):∃d,ds[i]?=some d∧d.w=true:=by
 have:=qtP h;unfold wix at this;rw[quV] at this
 cases hd:ds[i]? with
 | none=>rw[hd] at this;simp at this
 | some d=>rw[hd] at this;exact ⟨d,rfl,by simpa using this.2⟩
theorem qq7{ds:List D}{p p' i:Nat}(h:(wix ds)[p]?=some i)(h':(wix ds)[p']?=some i):p=p':=by
 have hn:(wix ds).Nodup:=List.Pairwise.filter _ List.nodup_range;exact (List.getElem?_inj (qtB.1 h).1 hn).1 (h.trans h'.symm)
section
variable {P:Program} {N n0 m0:Nat} {ro:Option Nat} {n:Nat} {ops:Array Oper} {Q:Post} {ds:List D} {base:Nat} {e0 ef:Env} {Hf:List St} {E0:En} {S0:St} {w0:World}
def Fact(P:Program)(ds:List D)(base:Nat)(e0 ef:Env)(Hf:List St)(j:Nat)(d:D):Prop:=
 ∃T v T' ej,Hf[pos ds j]?=some T∧Step P base ej T d v T'∧(∀t,d.o.dst=some t→ef.get t=some v)∧(d.w=true→Hf[pos ds j+1]?=some T')∧
  (∀t,t∈d.o.tmps→(∀i,qbn ds i=some t→i<j)→ej.get t=ef.get t)∧(∀t i,j≤i→qbn ds i=some t→ej.get t=e0.get t)
theorem Inv.range{listed:Array Bool}{q:Nat}{E:En}{S:St}{a:Act}{w:World}(inv:Inv ds N n0 m0 base e0 ef Hf E0 S0 w0 listed q E S a w)(ok:∀j d,ds[j]?=some d→Ok ds (qb6 ops) j d){j:Nat}{d:D}(hj:ds[j]?=some d)
  (hun:listed.getD j true=false) (hanc:∀i,i∈d.anc→listed.getD i false=true):d.lo≤q∧(d.w=false→q≤d.hi)∧(d.w=true→q=pos ds j):=by
 have hok:=ok j d hj
 have hnl:listed.getD j false≠true:=by
  intro h;obtain ⟨h1,h2⟩:=qck.1 hun;obtain ⟨h3,h4⟩:=qch.1 h;rw[h2] at h4;cases h4
 have hlo:d.lo≤q:=by
  rcases qva q d.lo with h| h
  ·obtain ⟨i,hi,hia⟩:=hok.lo q h;have:=(inv.num q i hi).1 (hanc i hia);omega
  ·exact h
 refine ⟨hlo,fun hw=>?_,fun hw=>?_⟩
 ·rcases qva d.hi q with h| h
  ·have hlt:d.hi<(wix ds).length:=quk h inv.qle;have hi:(wix ds)[d.hi]?=some (wix ds)[d.hi]:=by simp[hlt]
   rcases hok.hi d.hi _ (qtH _) hi with he|he
   ·obtain ⟨d',hd',hw'⟩:=qhb hi;rw[he,hj] at hd';cases hd';rw[hw] at hw';cases hw'
   ·have hl:=(inv.num d.hi _ hi).2 h;obtain ⟨d',hd',_⟩:=qhb hi;exact absurd (inv.closed _ d' hd' hl j (by simpa[qfD,hd'] using he)) hnl
  ·exact h
 ·obtain ⟨h1,h2⟩:=hok.wr hw;have hnq:¬ pos ds j<q:=fun h=>hnl ((inv.num _ j h1).2 h)
  omega
theorem Inv.next{listed:Array Bool}{q:Nat}{E:En}{S:St}{a:Act}{w:World}(inv:Inv ds N n0 m0 base e0 ef Hf E0 S0 w0 listed q E S a w)(ok:∀j d,ds[j]?=some d→Ok ds (qb6 ops) j d){i:Nat}{d:D}{o:Oper}(hd:ds[i]?=some d)
  (hun:listed.getD i true=false) (hanc:∀s,s∈d.anc→listed.getD s false=true) (hdst:d.o.dst=o.dst) (hdN:qjT N o.dst=true) {v:V} {E':En} {S':St} {u:Value} {w':World}
  (f3:∀t,d.o.dst=some t→ef.get t=some v) (hq:d.w=true→q=pos ds i) (hS':d.w=true→Hf[q+1]?=some S') (hSS:d.w=false→S'=S)
  (hv:∀t,o.dst=some t→VR E' v u) (hle:E.le E') (hsr:SR E' S' w') (hext:Ext n0 E S w E' S' w') (hl:S.length≤S'.length)
  (hsl:∀i' s,qcy ds i'=some s→i'≠i→(∀st,E.ρ (base+s) st=none)→∀st,E'.ρ (base+s) st=none):
  Inv ds N n0 m0 base e0 ef Hf E0 S0 w0 (listed.setIfInBounds i true) (if d.w then q+1 else q) E' S' (a.put o.dst u) w':=by
 have hok:=ok i d hd;have hils:i<listed.size:=by rw[inv.size];exact (qtB.1 hd).1
 refine ⟨by simp[inv.size],?_,?_,?_,?_,?_,?_,?_,?_,?_,hsr,quF inv.len hl,fun i' s hs=>quk (inv.room i' s hs) hl,inv.ext.trans hext⟩
 ·intro j d' hj hlj s hs;rw[qct hils] at hlj ⊢;rcases hlj with rfl|hlj
  ·rw[hd] at hj;cases hj;exact .inr (hanc s hs)
  ·exact .inr (inv.closed j d' hj hlj s hs)
 ·intro p i' hp;rw[qct hils,inv.num p i' hp]
  cases hw:d.w with
  | true=>
   have hq:=hq hw;simp only[if_true];constructor
   ·rintro (rfl|h)
    ·have:=qq7 hp (hok.wr hw).1;omega
    ·omega
   ·intro h;rcases qva p q with h'|h'
    ·exact .inr h'
    ·have:p=pos ds i:=by omega
     subst this;rw[(hok.wr hw).1] at hp;cases hp;exact .inl rfl
  | false=>
   simp only[qua,if_false];refine ⟨fun h=>h.resolve_left ?_,.inr⟩;rintro rfl;obtain ⟨d',hd',hw'⟩:=qhb hp;rw[hd] at hd';cases hd';rw[hw] at hw';cases hw'
 ·cases hw:d.w with
  | true=>
   have hq:=hq hw;have:=(qtB.1 (hok.wr hw).1).1;simp only[if_true];omega
  | false=>simpa using inv.qle
 ·cases hw:d.w with
  | true=>
   have hq:=hq hw;simp only[if_true];exact hS' hw
  | false=>
   simp only[qua,if_false];rw[hSS hw];exact inv.st
 ·intro t vt hvt hall';by_cases ht:o.dst=some t
  ·have h3:=f3 t (by rw[hdst];exact ht);rw[hvt] at h3;cases h3;refine ⟨u,?_,hv t ht⟩;have hlt:t<a.tmps.size:=by rw[inv.N];rw[ht] at hdN;simpa[qjT] using hdN
   rw[ht];show (a.tmps.setIfInBounds t u)[t]?=some u;simp[hlt]
  ·obtain ⟨x,hx,hxr⟩:=inv.tmps t vt hvt fun s hs=>by
    have:=hall' s hs;rw[qct hils] at this;refine this.resolve_left ?_;rintro rfl;simp[qbn,hd,hdst] at hs;exact ht hs
   refine ⟨x,?_,hxr.mono hle⟩
   cases hod:o.dst with
   | none=>exact hx
   | some t'=>
    show (a.tmps.setIfInBounds t' u)[t]?=some x;rw[qt5 (by rintro rfl;exact ht hod)];exact hx
 ·intro t vt hvt hall'
  have ht:o.dst≠some t:=fun ht=>by
   have:=hall' i (by simp[qbn,hd,hdst,ht]);have h2:(listed.setIfInBounds i true).getD i false=true:=(qct hils).2 (.inl rfl);rw[this] at h2;cases h2
  obtain ⟨x,hx,hxr⟩:=inv.tmps0 t vt hvt fun s hs=>by
   have:=hall' s hs
   cases hl':listed.getD s false with
   | false=>rfl
   | true=>rw[(qct hils).2 (.inr hl')] at this;cases this
  refine ⟨x,?_,hxr.mono hle⟩
  cases hod:o.dst with
  | none=>exact hx
  | some t'=>
   show (a.tmps.setIfInBounds t' u)[t]?=some x;rw[qt5 (by rintro rfl;exact ht hod)];exact hx
 ·intro i' s hs hl' st;by_cases hii:i'=i
  ·subst hii;rw[qck] at hl';obtain ⟨h1,h2⟩:=hl';simp at h2
  ·exact hsl i' s hs hii (inv.slots i' s hs (by rw[getD_set_ne true (Ne.symm hii)] at hl';exact hl')) st
 ·cases o.dst <;> simp[Act.put,inv.N]
 ·cases o.dst <;> exact qeo.step hext inv.defers
theorem Inv.opnd{listed:Array Bool}{q:Nat}{E:En}{S:St}{a:Act}{w:World}(inv:Inv ds N n0 m0 base e0 ef Hf E0 S0 w0 listed q E S a w)(ok:∀j d,ds[j]?=some d→Ok ds (qb6 ops) j d){i:Nat}{d:D}(hd:ds[i]?=some d)
  (hun:listed.getD i true=false) (hanc:∀s,s∈d.anc→listed.getD s false=true) {ej:Env} (ev:EnvAt ds e0 i d ej ef):∀t,t∈d.o.tmps→∀v,ej.get t=some v→∃u,a.tmps[t]?=some u∧VR E v u:=by
 have hok:=ok i d hd
 have hnl:∀s,(s=i∨i∈qfD ds s)→listed.getD s false=false:=fun s hs=>by
  cases hl:listed.getD s false with
  | false=>rfl
  | true=>
   exfalso
   have:listed.getD i false=true:=by
    rcases hs with rfl|hs
    ·exact hl
    ·cases hds:ds[s]? with
     | none=>simp[qfD,hds] at hs
     | some d'=>exact inv.closed s d' hds hl i (by simpa[qfD,hds] using hs)
   obtain ⟨h1,h2⟩:=qck.1 hun;obtain ⟨h3,h4⟩:=qch.1 this;rw[h2] at h4;cases h4
 intro t ht v hv;by_cases hlate:∃s,i≤s∧qbn ds s=some t
 ·obtain ⟨s,hs,hst⟩:=hlate;rw[ev.f6 t s hs hst] at hv;refine inv.tmps0 t v hv fun s' hs'=>?_
  have hss:s'=s:=by
   cases hds:ds[s]? with
   | none=>simp[qbn,hds] at hst
   | some d'=>
    have hdd:d'.o.dst=some t:=by simpa[qbn,hds] using hst
    by_cases h:s'=s
    ·exact h
    ·exact absurd hs' ((ok s d' hds).dst t hdd s' h)
  subst hss;rcases hok.tmps t ht s' hst with ⟨_,h⟩|⟨_,_,h⟩
  ·omega
  ·exact hnl s' h
 ·rw[ev.f5 t ht fun s hs=>by
   rcases qva s i with h| h
   ·exact h
   ·exact absurd ⟨s,h,hs⟩ hlate] at hv
  refine inv.tmps t v hv fun s hs=>?_
  rcases hok.tmps t ht s hs with ⟨h,_⟩|⟨_,h,_⟩
  ·exact hanc s h
  ·exact absurd ⟨s,h,hs⟩ hlate
theorem qhG:∀(ts:List Nat) (ej:Env) (t:Nat),t∈ts→(ej.keep ts).get t=ej.get t:=by
 intro ts ej
 induction ts with
 | nil=>intro t h;cases h
 | cons s ts ih=>
  intro t h;simp only[Env.keep];by_cases hst:s=t
  ·subst hst
   cases hs:ej.get s with
   | none=>
    simp only[]
    cases hk:(ej.keep ts).get s with
    | none=>rfl
    | some v=>have:=Env.get_keep hk;rw[hs] at this;cases this
   | some v=>simp[Env.get]
  ·have ht:=(quc.1 h).resolve_left (fun e=>hst e.symm)
   cases hs:ej.get s with
   | none=>exact ih t ht
   | some v=>simp only[Env.get];rw[if_neg hst];exact ih t ht
theorem qkY:∀(ts:List Nat) (ej:Env) (t:Nat),t∉ts→(ej.keep ts).get t=none:=by
 intro ts ej t
 induction ts with
 | nil=>intro _;rfl
 | cons s ts ih=>
  intro h;simp only[quc,not_or] at h;simp only[Env.keep];split
  ·simp only[Env.get];rw[if_neg (Ne.symm h.1)];exact ih h.2
  ·exact ih h.2
def Seen(ds:List D)(base:Nat)(e0 ef:Env)(S:St)(i:Nat)(d:D)(ej:Env):Prop:=EnvAt ds e0 i d ej ef∧
 ((qaX ej d.o.g=some false∧∀t,d.o.dst=some t→ef.get t=some (.tup []))∨
  (qaX ej d.o.g=some true∧∃s z,d.slot=some s∧d.o.k=.new z∧(∀t,d.o.dst=some t→ef.get t=some (.ptr (base+s) 0 0 1))∧S[base+s]?=some (.arr [z] z.size 1)∧0<z.size∧(z.cells.all V.flat)=true)∨
  (qaX ej d.o.g=some true∧d.slot=none∧∃v,evK ej S d.o.k=some (v,S)∧∀t,d.o.dst=some t→ef.get t=some v))
theorem Inv.seen{listed:Array Bool}{q:Nat}{E:En}{S:St}{a:Act}{w:World}(inv:Inv ds N n0 m0 base e0 ef Hf E0 S0 w0 listed q E S a w)(ok:∀j d,ds[j]?=some d→Ok ds (qb6 ops) j d){i:Nat}{d:D}(hd:ds[i]?=some d)
  (hun:listed.getD i true=false) (hanc:∀s,s∈d.anc→listed.getD s false=true) (hw:d.w=false) (fact:Fact P ds base e0 ef Hf i d) (chks:qqM base ef Hf ds):∃ej,Seen ds base e0 ef S i d ej:=by
 have hok:=ok i d hd;obtain ⟨rlo,rhi,_⟩:=inv.range ok hd hun hanc;obtain ⟨T,v,T',ej,f1,f2,f3,f4,f5,f6⟩:=fact;refine ⟨ej,⟨f5,f6⟩,?_⟩
 have hstrict:d.chk=true→qdT d.o.tmps ef ej:=fun hc t ht=>f5 t ht fun s hs=>by
  rcases hok.tmps t ht s hs with ⟨_,h⟩|⟨h,_⟩
  ·exact h
  ·rw[hc] at h;cases h
 rcases f2 with ⟨g1,g2,g3⟩|⟨g1,g2⟩
 ·exact .inl ⟨g1,by rw[←g2];exact f3⟩
 rcases g2 with ⟨s,hs,g3,g4⟩|⟨hs,g2⟩
 ·obtain ⟨k1,k2,⟨z,hz⟩,k4⟩:=hok.slot s hs;have hc:=chks d (qtP hd) k2 k1 (by rw[←qbQ (hstrict k2)];exact g1) q rlo (rhi k1) S inv.st;rw[hs,hz] at hc;simp only at hc;obtain ⟨c1,c2,c3⟩:=hc;exact .inr (.inl ⟨g1,s,z,hs,hz,by rw[←g3];exact f3,c1,c2,c3⟩)
 refine .inr (.inr ⟨g1,hs,?_⟩);have hnw:=(hok.noslot hs).resolve_left (by simp[hw]);rcases g2 with ⟨f,args,hkc⟩|g2
 ·rw[hkc] at hnw;simp[K.writes] at hnw
 have hT:=qd4 hnw g2;subst hT;rcases hok.nochk.resolve_left (by simp[hw]) with hch|⟨hl,hh⟩|⟨_,hch⟩
 ·have hc:=chks d (qtP hd) hch hw (by rw[←qbQ (hstrict hch)];exact g1) q rlo (rhi hw) S inv.st;rw[hs] at hc;simp only at hc;obtain ⟨v',c1,c2⟩:=hc;exact ⟨v',by rw[qd7 ((hstrict hch).sub fun t ht=>by simp[O'.tmps,ht])];exact c1,c2⟩
 ·have hq:q=pos ds i:=by have:=rhi hw;omega
  have:=inv.st;rw[hq,f1] at this;cases this;exact ⟨v,g2,f3⟩
 ·exact ⟨v,by rw[qnY (S:=T') hch,g2];rfl,f3⟩
structure Cls(P:Program)(ds:List D)(base:Nat)(e0:Env)(Q:Post)(ef:Env)(Hf:List St):Prop where
 facts:∀(j:Nat) (d:D),ds[j]?=some d→Fact P ds base e0 ef Hf j d
 chks:qqM base ef Hf ds
 last:∀S,Hf.getLast?=some S→Q .normal ef S
 len:Hf.length=(wix ds).length+1
 keep:∀t,(∀i,qbn ds i≠some t)→ef.get t=e0.get t
structure InvC(P:Program)(ds:List D)(N n0 m0 base:Nat)(e0:Env)(Q:Post)(E0:En)(S0:St)(w0:World)(C:Env→List St→Prop)(listed:Array Bool)(q:Nat)(E:En)(S:St)(a:Act)(w:World):Prop where
 cls:∀ef Hf,C ef Hf→Cls P ds base e0 Q ef Hf
 inv:∀ef Hf,C ef Hf→Inv ds N n0 m0 base e0 ef Hf E0 S0 w0 listed q E S a w
 good:qg1 P ds e0 ((wix ds).length - q) q C
 agree:∀ef Hf ef' Hf',C ef Hf→C ef' Hf'→∀i t,listed.getD i false=true→qbn ds i=some t→ef.get t=ef'.get t
theorem qmM{C:Env→List St→Prop}{listed:Array Bool}{q:Nat}{E:En}{S:St}{a:Act}{w:World}{M:Act→World→Prop}(ic:InvC P ds N n0 m0 base e0 Q E0 S0 w0 C listed q E S a w)(ok:∀j d,ds[j]?=some d→Ok ds (qb6 ops) j d)(hlen:ds.length=ops.size)(hn0:n0≤base)
  (hcomp:∀(j:Nat) (d:D) (o:Oper),ds[j]?=some d→ops[j]?=some o→qbr P N ops o=some d.o) {i:Nat} (hi:i∈Region.ready .any ops listed)
  (hK:∀a' w' E' q' S' C',InvC P ds N n0 m0 base e0 Q E0 S0 w0 C' (listed.setIfInBounds i true) q' E' S' a' w'→M a' w'):
  wpOpIn (qb5 ro) n P ops (Up N n0 m0 E0 S0 w0 Q) i M a w:=by
 obtain ⟨hun,o,ho,hall⟩:=mem_ready.1 hi;have hilt:i<ds.length:=by rw[hlen];exact (qtS.1 ho).1
 have hd:ds[i]?=some ds[i]:=by simp[hilt]
 generalize hdd:ds[i]=d at hd;have hok:=ok i d hd;obtain ⟨hdst,hdN,hk,hg⟩:=qfV (hcomp i d o hd ho);obtain ⟨ef,Hf,hc⟩:=ic.good.some;have inv:=ic.inv ef Hf hc;have cl:=ic.cls ef Hf hc;have hils:i<listed.size:=by rw[inv.size];exact hilt
 have haft:∀s,s∈qb6 ops i→listed.getD s false=true:=fun s hs=>by
  simp only[qb6,ho,qt3,quV] at hs;obtain ⟨e,⟨he,hb⟩,rfl⟩:=hs;exact hall e (by simpa using he) hb
 have hanc:∀s,s∈d.anc→listed.getD s false=true:=fun s hs=>by
  rcases hok.anc s hs with h|⟨r,hr,hrs⟩
  ·exact haft s h
  ·have hrlt:r<ds.length:=by have:=hok.back r hr;omega
   have hrd:ds[r]?=some ds[r]:=by simp[hrlt]
   exact inv.closed r _ hrd (haft r hr) s (by simpa[qfD,hrd] using hrs)
 obtain ⟨rlo,rhi,rw'⟩:=inv.range ok hd hun hanc;have extOf:∀{E':En} {S':St} {w':World},Ext S.length E S w E' S' w'→Ext n0 E S w E' S' w':=fun h=>h.less (quF hn0 inv.len)
 have slotsOf:∀{E':En} {S':St} {w':World},Ext S.length E S w E' S' w'→∀i' s,qcy ds i'=some s→i'≠i→(∀st,E.ρ (base+s) st=none)→∀st,E'.ρ (base+s) st=none:=fun h i' s hs _ hno=>h.no _ (inv.room i' s hs) hno
 have finish:∀(C':Env→List St→Prop),(∀ef Hf,C' ef Hf→C ef Hf)→∀(v:V) (E':En) (S':St) (u:Value) (w':World),(∀ef Hf,C' ef Hf→∀t,d.o.dst=some t→ef.get t=some v)→(∀ef Hf,C' ef Hf→d.w=true→Hf[q+1]?=some S')→(d.w=false→S'=S)→
   qg1 P ds e0 ((wix ds).length - (if d.w then q+1 else q)) (if d.w then q+1 else q) C'→(∀t,o.dst=some t→VR E' v u)→E.le E'→SR E' S' w'→Ext n0 E S w E' S' w'→S.length≤S'.length→
   (∀i' s,qcy ds i'=some s→i'≠i→(∀st,E.ρ (base+s) st=none)→∀st,E'.ρ (base+s) st=none)→M (a.put o.dst u) w':=by
  intro C' hsub v E' S' u w' f3 hS' hSS hgood hv hle hsr hext hl hsl;refine hK _ _ E' (if d.w then q+1 else q) S' C' ⟨fun ef Hf h=>ic.cls ef Hf (hsub ef Hf h),fun ef Hf h=>(ic.inv ef Hf (hsub ef Hf h)).next ok hd hun hanc hdst hdN (f3 ef Hf h) rw' (hS' ef Hf h) hSS hv hle hsr hext hl hsl,hgood,?_⟩;intro ef Hf ef' Hf' h h' i' t hli hit;rw[qct hils] at hli;rcases hli with rfl|hli
  ·have ht:d.o.dst=some t:=by simpa[qbn,hd] using hit
   rw[f3 ef Hf h t ht,f3 ef' Hf' h' t ht]
  ·exact ic.agree ef Hf ef' Hf' (hsub _ _ h) (hsub _ _ h') i' t hli hit
 unfold wpOpIn;rw[ho];simp only[];have hgd:∀{ej:Env},EnvAt ds e0 i d ej ef→∀b,qaX ej d.o.g=some b→Region.wanted o (yielded ops a.tmps)=b:=fun {ej} ev b hb=>
  hg E ej a b (fun t w hg v hv=>inv.opnd ok hd hun hanc ev t (by simp[O'.tmps,hg]) v hv) hb
 have hTm:∀{ej:Env},EnvAt ds e0 i d ej ef→Tmps E (ej.keep d.o.tmps) a.tmps:=fun {ej} ev t v hv=>by
  by_cases ht:t∈d.o.tmps
  ·rw[qhG _ _ t ht] at hv;exact inv.opnd ok hd hun hanc ev t ht v hv
  ·rw[qkY _ _ t ht] at hv;cases hv
 have hag:∀ej:Env,qdT d.o.k.tmps ej (ej.keep d.o.tmps):=fun ej t ht=>qhG _ _ t (by simp[O'.tmps,ht])
 cases hw:d.w with
 | true=>
  have hqp:=rw' hw;have hwq:=(hok.wr hw).1;rw[←hqp] at hwq;have hqlt:=(qtB.1 hwq).1;obtain ⟨m,hm⟩:∃m,(wix ds).length - q=m+1:=⟨(wix ds).length - q - 1,by omega⟩;have hm1:(wix ds).length - (q+1)=m:=by omega
  have hgood:=ic.good;rw[hm] at hgood;obtain ⟨_,i',d',ei,T,gi,gd,gT,gout⟩:=hgood;rw[hwq] at gi;cases gi;rw[hd] at gd;cases gd;obtain ⟨gT1,gev⟩:=gT ef Hf hc
  have hST:T=S:=by
   have:=inv.st;rw[gT1] at this;cases this;rfl
  subst hST;rw[hw] at finish;simp only[if_true,hm1] at finish;rcases gout with ⟨v,S',hdet,hout,hgd'⟩|⟨f,args,kf,fs,cs,vs,R,g1,hs,g3,g4,g5,g6,g7⟩
  ·have fin:∀(E':En) (u:Value) (w':World),(∀t,o.dst=some t→VR E' v u)→E.le E'→SR E' S' w'→Ext n0 E T w E' S' w'→T.length≤S'.length→
     (∀i' s,qcy ds i'=some s→i'≠i→(∀st,E.ρ (base+s) st=none)→∀st,E'.ρ (base+s) st=none)→M (a.put o.dst u) w':=fun E' u w'=>
    finish C (fun _ _ h=>h) v E' S' u w' (fun ef Hf h=>(hout ef Hf h).1) (fun ef Hf h _=>(hout ef Hf h).2) (fun h=>by cases h) hgd'
   rcases hdet with ⟨g1,g2,g3⟩|⟨g1,hs,g2⟩
   ·rw[hgd gev false g1];simp only[qua,if_false];refine ⟨fun f hf=>trivial,?_⟩;subst g3;exact fin E undef w (fun _ _=>by rw[g2];exact .tup (by simp) (fun i v u h=>by simp at h)) (En.le_refl E) inv.sr (Ext.refl _ _ _ _) (qtH _) (fun _ _ _ _ h=>h)
   ·rw[hgd gev true g1];simp only[if_true];refine qg0 hk (hTm gev) inv.sr (by rw[qd7 (hag ei)];exact g2) fun E' u w' hvr hsr hext hl=>?_
    exact fin E' u w' (fun _ _=>hvr) (hext.le inv.sr) hsr (extOf hext) hl (slotsOf hext)
  ·rw[hgd gev true g1];simp only[if_true];have hagk:=hag ei;rw[g3] at hagk;simp only[K.tmps] at hagk;refine qk3 (by rw[hk,g3]) (hTm gev) inv.sr (by rw[qav (hagk.sub (us:=f.tmps) (by simp;grind))];exact g4) (by rw[qdm (hagk.sub (us:=args.flatMap Opd.tmps) (by simp;grind))];exact g5) g6 fun r S' E' u w' hR hvr hsr hext hl=>?_
   obtain ⟨C',hsub,hgd'⟩:=g7 r S' hR;exact finish C' (fun _ _ h=>(hsub _ _ h).1) r E' S' u w' (fun ef Hf h=>(hsub ef Hf h).2.1) (fun ef Hf h _=>(hsub ef Hf h).2.2) (fun h=>by cases h) hgd' (fun _ _=>hvr) (hext.le inv.sr) hsr (extOf hext) hl (slotsOf hext)
 | false=>
  have hgood:=ic.good;rw[hw] at finish;simp only[qua,if_false] at finish;obtain ⟨ej,gev,hseen⟩:=inv.seen ok hd hun hanc hw (cl.facts i d hd) cl.chks
  have agr:∀ef' Hf',C ef' Hf'→∃ej',Seen ds base e0 ef' S i d ej'∧qdT d.o.tmps ej ej':=fun ef' Hf' hc'=>by
   obtain ⟨ej',hs'⟩:=(ic.inv ef' Hf' hc').seen ok hd hun hanc hw ((ic.cls ef' Hf' hc').facts i d hd) (ic.cls ef' Hf' hc').chks;refine ⟨ej',hs',fun t ht=>?_⟩;by_cases hlate:∃s,i≤s∧qbn ds s=some t
   ·obtain ⟨s,hs,hst⟩:=hlate;rw[gev.f6 t s hs hst,hs'.1.f6 t s hs hst]
   ·have hlt:∀s,qbn ds s=some t→s<i:=fun s hs=>by
     rcases qva s i with h| h
     ·exact h
     ·exact absurd ⟨s,h,hs⟩ hlate
    rw[gev.f5 t ht hlt,hs'.1.f5 t ht hlt];by_cases hex:∃s,qbn ds s=some t
    ·obtain ⟨s,hs⟩:=hex;refine ic.agree ef' Hf' ef Hf hc' hc s t ?_ hs;rcases hok.tmps t ht s hs with ⟨h,_⟩|⟨_,h,_⟩
     ·exact hanc s h
     ·have:=hlt s hs;omega
    ·rw[cl.keep t fun s hs=>hex ⟨s,hs⟩,(ic.cls ef' Hf' hc').keep t fun s hs=>hex ⟨s,hs⟩]
  have val:∀v:V,(∀ef' Hf' ej',C ef' Hf'→Seen ds base e0 ef' S i d ej'→qdT d.o.tmps ej ej'→∀t,d.o.dst=some t→ef'.get t=some v)→∀ef' Hf',C ef' Hf'→∀t,d.o.dst=some t→ef'.get t=some v:=fun v h ef' Hf' hc'=>by
   obtain ⟨ej',h1,h2⟩:=agr ef' Hf' hc';exact h ef' Hf' ej' hc' h1 h2
  rcases hseen with ⟨g1,g2⟩|⟨g1,s,z,hs,hz,g2,c1,c2,c3⟩|⟨g1,hs,v,g2,g3⟩
  ·rw[hgd gev false g1];simp only[qua,if_false];refine ⟨fun f hf=>trivial,?_⟩;refine finish C (fun _ _ h=>h) (.tup []) E S undef w (val _ fun ef' Hf' ej' hc' hs' ha t ht=>?_) (fun _ _ _ h=>by cases h) (fun _=>rfl) hgood (fun _ _=>.tup (by simp) (fun i v u h=>by simp at h)) (En.le_refl E) inv.sr (Ext.refl _ _ _ _) (qtH _) (fun _ _ _ _ h=>h);have hwd:=qbQ ha;rw[g1] at hwd;rcases hs'.2 with ⟨_,k⟩|⟨k,_⟩|⟨k,_⟩
   ·exact k t ht
   ·rw[hwd] at k;cases k
   ·rw[hwd] at k;cases k
  ·rw[hgd gev true g1];simp only[if_true];have hno:=inv.slots i s (by simp[qcy,hd,hs]) hun;obtain ⟨_,_,_,k4⟩:=hok.slot s hs;refine qrx (by rw[hk,hz]) inv.sr c1 hno c2 c3 fun E' u w' b1 b2 b3 b4 b5=>?_
   have h1:=inv.len;refine finish C (fun _ _ h=>h) (.ptr (base+s) 0 0 1) E' S u w' (val _ fun ef' Hf' ej' hc' hs' ha t ht=>?_) (fun _ _ _ h=>by cases h) (fun _=>rfl) hgood (fun _ _=>b1) b3 b2 (b4 n0 (by omega)) (qtH _) (fun i' s' hs' hne hno' st=>?_)
   ·have hwd:=qbQ ha;rw[g1] at hwd;rcases hs'.2 with ⟨k,_⟩|⟨_,s',z',k1,_,k2,_⟩|⟨_,k,_⟩
    ·rw[hwd] at k;cases k
    ·rw[hs] at k1;cases k1;exact k2 t ht
    ·rw[hs] at k;cases k
   ·rw[b5 _ _ (fun he=>?_)]
    ·exact hno' st
    ·have:s'=s:=by omega
     subst this;exact k4 i' hne hs'
  ·rw[hgd gev true g1];simp only[if_true];refine qg0 hk (hTm gev) inv.sr (by rw[qd7 (hag ej)];exact g2) fun E' u w' hvr hsr hext hl=>?_
   refine finish C (fun _ _ h=>h) v E' S u w' (val _ fun ef' Hf' ej' hc' hs' ha t ht=>?_) (fun _ _ _ h=>by cases h) (fun _=>rfl) hgood (fun _ _=>hvr) (hext.le inv.sr) hsr (extOf hext) hl (slotsOf hext);have hwd:=qbQ ha;rw[g1] at hwd;rcases hs'.2 with ⟨k,_⟩|⟨_,s',z',k1,_⟩|⟨_,_,v',k1,k2⟩
   ·rw[hwd] at k;cases k
   ·rw[hs] at k1;cases k1
   ·rw[qd7 (ha.sub fun t ht=>by simp[O'.tmps,ht]),g2] at k1;cases k1;exact k2 t ht
theorem qnT(ok:∀j d,ds[j]?=some d→Ok ds (qb6 ops) j d)(hlen:ds.length=ops.size)(hn0:n0≤base)
  (hcomp:∀(j:Nat) (d:D) (o:Oper),ds[j]?=some d→ops[j]?=some o→qbr P N ops o=some d.o):
  ∀(fuel:Nat) (C:Env→List St→Prop) (listed:Array Bool) (q:Nat) (E:En) (S:St) (a:Act) (w:World),InvC P ds N n0 m0 base e0 Q E0 S0 w0 C listed q E S a w→listed.toList.count false≤fuel→
   wpAnyIn (qb5 ro) n P .any ops (Up N n0 m0 E0 S0 w0 Q) fuel listed a w:=by
 have done:∀(ef:Env) (Hf:List St),Cls P ds base e0 Q ef Hf→∀(listed:Array Bool) (q:Nat) (E:En) (S:St) (a:Act) (w:World),Inv ds N n0 m0 base e0 ef Hf E0 S0 w0 listed q E S a w→(∀i,i<listed.size→listed.getD i false=true)→Up N n0 m0 E0 S0 w0 Q .normal a w:=by
  intro ef Hf cl listed q E S a w inv hall
  have hq:q=(wix ds).length:=by
   rcases qva q (wix ds).length with h| h
   ·exfalso;have hi:(wix ds)[q]?=some (wix ds)[q]:=by simp[h]
    obtain ⟨d,hd,_⟩:=qhb hi;have:=(inv.num q _ hi).1 (hall _ (by rw[inv.size];exact (qtB.1 hd).1));omega
   ·have:=inv.qle;omega
  refine ⟨E,ef,S,⟨fun t v hv=>inv.tmps t v hv fun i hi=>hall i (by rw[inv.size];exact qgY hi),inv.N,inv.defers,quF hn0 inv.len,inv.sr⟩,inv.ext,cl.last S ?_⟩;rw[List.getLast?_eq_getElem?,cl.len,Nat.add_sub_cancel,←hq];exact inv.st
 have none_ready:∀(ef:Env) (Hf:List St) (listed:Array Bool) (q:Nat) (E:En) (S:St) (a:Act) (w:World),Inv ds N n0 m0 base e0 ef Hf E0 S0 w0 listed q E S a w→Region.ready .any ops listed=[]→∀i,i<listed.size→listed.getD i false=true:=by
  intro ef Hf listed q E S a w inv hr i
  induction i using Nat.strongRecOn with
  | ind i ih=>
   intro hi
   cases hb:listed.getD i false with
   | true=>rfl
   | false=>
    exfalso;have hil:i<ds.length:=by rw[←inv.size];exact hi
    have hd:ds[i]?=some ds[i]:=by simp[hil]
    have ho:ops[i]?=some (ops[i]'(by omega)):=by simp
    have hmem:i∈Region.ready .any ops listed:=by
     refine mem_ready.2 ⟨?_,_,ho,fun e he hbi=>?_⟩
     ·simp only[Array.getD,hi,dif_pos] at hb ⊢;exact hb
     ·have hs:e.on∈qb6 ops i:=by
       simp only[qb6,ho,qt3,quV];exact ⟨e,⟨by simpa using he,hbi⟩,rfl⟩
      have hlt:=(ok i _ hd).back _ hs;exact ih _ hlt (by omega)
    rw[hr] at hmem;cases hmem
 intro fuel
 induction fuel with
 | zero=>
  intro C listed q E S a w ic hc;obtain ⟨ef,Hf,hC⟩:=ic.good.some;have hall:∀i,i<listed.size→listed.getD i false=true:=fun i hi=>qlb (by omega) hi
  refine ⟨?_,done ef Hf (ic.cls ef Hf hC) listed q E S a w (ic.inv ef Hf hC) hall⟩
  cases hr:Region.ready .any ops listed with
  | nil=>rfl
  | cons i l=>
   exfalso;have:i∈Region.ready .any ops listed:=by rw[hr];simp
   obtain ⟨h1,_⟩:=mem_ready.1 this;obtain ⟨h2,h3⟩:=qck.1 h1;obtain ⟨h4,h5⟩:=qch.1 (hall i h2);rw[h3] at h5;cases h5
 | succ fuel ih=>
  intro C listed q E S a w ic hc;obtain ⟨ef,Hf,hC⟩:=ic.good.some;refine ⟨fun hr=>done ef Hf (ic.cls ef Hf hC) listed q E S a w (ic.inv ef Hf hC) (none_ready ef Hf listed q E S a w (ic.inv ef Hf hC) hr),fun i hi=>?_⟩;refine qmM ic ok hlen hn0 hcomp hi fun a' w' E' q' S' C' ic'=>ih C' _ q' E' S' a' w' ic' ?_
  have:=count_set (mem_ready.1 hi).1;omega
end
def qnG:List Nat→List Nat
 | []=>[]
 | x::xs=>if xs.contains x then qnG xs else x::qnG xs
def ancs:List (List Nat)→List (List Nat)→List (List Nat)
 | [],acc=>acc
 | a::as,acc=>ancs as (acc++[qnG (a++a.flatMap fun s=>(acc[s]?).getD [])])
def qqX:K→Bool
 | .new _=>true
 | _=>false
def newZ:O'→List V
 | ⟨_,_,.new z⟩=>[z]
 | _=>[]
def ql7:List V→Bool
 | []=>true
 | z::zs=>decide (0<z.size) && ql7 zs
theorem qgo:∀{zs:List V},ql7 zs=true→∀z,z∈zs→0<z.size
 | [],_,z,h=>by cases h
 | z0::zs,h,z,hz=>by
  simp only[ql7,qtJ,decide_eq_true_eq] at h;rcases quc.1 hz with rfl|hz
  ·exact h.1
  ·exact qgo h.2 z hz
def qih(ds:List D)(n:Nat):Bool:=(List.range ds.length).all fun i=>match qcy ds i with
 | some s=>decide (s<n)
 | none=>true
theorem qhx{ds:List D}{n:Nat}(h:qih ds n=true):∀i s,qcy ds i=some s→s<n:=fun i s hs=>by
 unfold qih at h;simp only[qtY,List.mem_range] at h;have:=h i (qhY hs);rw[hs] at this;simpa using this
def qb0(P:Program)(N:Nat)(ops:Array Oper):Option (List D×List V):=
 match ops.toList.mapM (qbr P N ops) with
 | none=>none
 | some os=>
  let as:=ancs ((List.range ops.size).map (qb6 ops)) []
  let ws:=os.map fun o=>o.k.writes && !qqX o.k
  let wi:=(List.range os.length).filter fun i=>(ws[i]?).getD false
  let ds:=os.mapIdx fun j o=>
   let anc:=(as[j]?).getD []
   let w:=(ws[j]?).getD false
   let p:=((ws.take j).filter id).length
   let lo:=if w then p else (wi.takeWhile fun i=>anc.contains i).length
   let hi:=if w then p else (wi.takeWhile fun i=>!((as[i]?).getD []).contains j).length
   let slot:=if qqX o.k then some ((os.take j).filter fun o=>qqX o.k).length else none
   { o:=o,w:=w,slot:=slot,chk:=slot.isSome || (!w && o.k.reads && decide (lo<hi)),anc:=anc,lo:=lo,hi:=hi:D }
  let zs:=os.flatMap newZ
  if qnQ P N ops ds=true∧P.follows .mixedOrders=true∧ql7 zs=true∧qih ds zs.length=true then some (ds,zs) else none
def qbj(base:Nat)(ef:Env)(d:D):List St→Prop
 | []=>True
 | T::Ts=>(match d.slot with
  | some s=>match d.o.k with
   | .new z=>T[base+s]?=some (.arr [z] z.size 1)∧0<z.size∧(z.cells.all V.flat)=true
   | _=>False
  | none=>∃v,evK ef T d.o.k=some (v,T)∧∀t,d.o.dst=some t→ef.get t=some v)∧qbj base ef d Ts
def qbe(base:Nat)(ef:Env)(H:List St):List D→Prop
 | []=>True
 | d::ds=>(if (d.chk && !d.w)=true then match qaX ef d.o.g with
   | some true=>qbj base ef d ((H.drop d.lo).take (d.hi+1 - d.lo))
   | _=>True
  else True)∧qbe base ef H ds
theorem qhW{base:Nat}{ef:Env}{d:D}:∀{Ts:List St},qbj base ef d Ts→∀T,T∈Ts→match d.slot with
  | some s=>match d.o.k with
   | .new z=>T[base+s]?=some (.arr [z] z.size 1)∧0<z.size∧(z.cells.all V.flat)=true
   | _=>False
  | none=>∃v,evK ef T d.o.k=some (v,T)∧∀t,d.o.dst=some t→ef.get t=some v
 | [],_,T,h=>by cases h
 | T0::Ts,⟨h1,h2⟩,T,h=>by
  rcases quc.1 h with rfl| h
  ·exact h1
  ·exact qhW h2 T h
theorem qf7{base:Nat}{ef:Env}{H:List St}:∀{ds:List D},qbe base ef H ds→qqM base ef H ds
 | [],_,d,h,_,_,_=>by cases h
 | d0::ds,⟨h1,h2⟩,d,h,hc,hw,hg=>by
  rcases quc.1 h with rfl| h
  ·rw[if_pos (by simp[hc,hw]),hg] at h1;intro q hlo hhi T hT;refine qhW h1 T ?_
   have:((H.drop d.lo).take (d.hi+1 - d.lo))[q - d.lo]?=some T:=by
    rw[qt9 (by omega),qun,show d.lo+(q - d.lo)=q by omega];exact hT
   exact qtP this
  ·exact qf7 h2 d h hc hw hg
def dend(base:Nat)(ds:List D)(Q:Env→St→Prop)(ef:Env)(H:List St):Prop:=
 qbe base ef H ds∧match H.getLast? with
  | some S=>Q ef S
  | none=>False
theorem qjj{α β:Type}{f:α→Option β}:∀{l:List α} {r:List β},l.mapM f=some r→r.length=l.length∧∀(i:Nat) (x:α) (y:β),l[i]?=some x→r[i]?=some y→f x=some y
 | [],r,h=>by simp at h;subst h;exact ⟨rfl,fun i x y h=>by simp at h⟩
 | a::l,r,h=>by
  simp only[quN,quw] at h
  cases ha:f a with
  | none=>rw[ha] at h;simp at h
  | some b=>
   rw[ha] at h
   cases hl:l.mapM f with
   | none=>rw[hl] at h;simp at h
   | some bs=>
    rw[hl] at h;simp at h;subst h;obtain ⟨h1,h2⟩:=qjj hl;refine ⟨by simp[h1],fun i x y hx hy=>?_⟩
    cases i with
    | zero=>simp at hx hy;subst hx;subst hy;exact ha
    | succ i=>exact h2 i x y (by simpa using hx) (by simpa using hy)
theorem qnv{ds:List D}:(wix ds).length=ds.countP fun d=>d.w:=by
 unfold wix;rw[←List.countP_eq_length_filter]
 have:∀(l:List D) (k:Nat),List.countP (fun i=>((k+l.length) - (k+l.length)=0) && ((l[i]?.map D.w).getD false)) (List.range l.length)=l.countP fun d=>d.w:=by
  intro l
  induction l with
  | nil=>intro k;rfl
  | cons d l ih=>
   intro k
   have h1:List.range (d::l).length=0::(List.range l.length).map (·+1):=by
    rw[que,List.range_succ_eq_map]
   rw[h1,quX,List.countP_map,quX];have:=ih 0;simp at this ⊢;rw[←this];rfl
 have h:=this ds 0;simpa using h
theorem qcR{P:Program}{N:Nat}{ops:Array Oper}{ds:List D}{zs:List V}(h:qb0 P N ops=some (ds,zs)):
  P.follows .mixedOrders=true∧qnQ P N ops ds=true∧ql7 zs=true∧(∀i s,qcy ds i=some s→s<zs.length)∧∀(j:Nat) (d:D) (o:Oper),ds[j]?=some d→ops[j]?=some o→qbr P N ops o=some d.o:=by
 unfold qb0 at h;split at h
 ·cases h
 ·rename_i os hos;simp only[] at h;split at h
  ·rename_i hc;obtain ⟨hc,hm,hz,hs⟩:=hc;simp only[Option.some.injEq,Prod.mk.injEq] at h;obtain ⟨rfl,rfl⟩:=h;refine ⟨hm,hc,hz,qhx hs,fun j d o hj ho=>?_⟩;rw[List.getElem?_mapIdx] at hj;simp only[qtK] at hj;obtain ⟨o',ho',rfl⟩:=hj;exact (qjj hos).2 j o o' (by simpa using ho) ho'
  ·cases h
theorem qdI{P:Program}{N n0 m0:Nat}{ro:Option Nat}{n:Nat}{ops:Array Oper}{Q:Post}{ds:List D}{zs:List V}{E:En}{e:Env}{S:St}{a:Act}{w:World}
  (hc:qb0 P N ops=some (ds,zs)) (hr:Rel N n0 m0 E e S a w)
  (h:dwp P S.length ds (dend S.length ds (Q .normal)) e (S++phs zs) [S++phs zs]):wpAnyIn (qb5 ro) n P .any ops (Up N n0 m0 E S w Q) ops.size (Array.replicate ops.size false) a { w with drawn:=w.drawn+1 }:=by
 obtain ⟨hm,hcd,hz,hslots,hcomp⟩:=qcR hc;obtain ⟨hlen,hok⟩:=qkh hcd;obtain ⟨p1,p2⟩:=(hr.sr.heap (w':={ w with drawn:=w.drawn+1 }) rfl).phantoms zs (qgo hz);have hext0:Ext n0 E S w E (S++phs zs) { w with drawn:=w.drawn+1 }:=(Ext.heap (w:=w) (w':={ w with drawn:=w.drawn+1 }) n0 rfl rfl).trans (p2 n0);obtain ⟨C,hC,hgood⟩:=qe3 (e0:=e) hok ds 0 e (S++phs zs) [S++phs zs] (by simp) (by simp[pos]) (by simp[pos]) (fun _ _=>rfl) h;rw[←qnv,show pos ds 0=0 by simp[pos]] at hgood
 have hfalse:∀i,(Array.replicate ops.size false).getD i false=false:=fun i=>by
  simp only[Array.getD];split <;> simp
 refine qnT (base:=S.length) (e0:=e) hok hlen hr.base hcomp ops.size C (Array.replicate ops.size false) 0 E (S++phs zs) a { w with drawn:=w.drawn+1 } ⟨fun ef Hf hc=>?_,fun ef Hf hc=>?_,hgood,fun ef Hf ef' Hf' _ _ i t hl _=>(by rw[hfalse] at hl;cases hl)⟩ (by simp)
 ·obtain ⟨⟨h1,h2⟩,htr⟩:=hC ef Hf hc;obtain ⟨T,hT1,hT2⟩:=qfr ds _ _ _ _ _ htr;refine ⟨fun j d hj=>qjH (aft:=qb6 ops) hok ds 0 e (S++phs zs) [S++phs zs] ef Hf (by simp) (by simp[pos]) (by simp[pos]) htr (fun _ _=>rfl) j d (quj _) hj,qf7 h1,fun S' hS'=>by rw[hS'] at h2;exact h2,by rw[hT1,qnv];simp[hT2,Nat.add_comm],fun t ht=>?_⟩
  exact qfi ds _ _ _ _ _ htr fun d hd hdd=>by
   obtain ⟨i,hi⟩:=qub hd;exact ht i (by simp[qbn,hi,hdd])
 ·obtain ⟨_,htr⟩:=hC ef Hf hc;obtain ⟨T,hT1,hT2⟩:=qfr ds _ _ _ _ _ htr;refine ⟨by simp[hlen],fun j d _ hl=>(by rw[hfalse] at hl;cases hl),fun p i _=>(by rw[hfalse i];simp),quj _,by rw[hT1];simp,fun t v hv hall=>?_,fun t v hv _=>hr.tmps t v hv,fun i s _ _ st=>?_,hr.size,qeo.step hext0 hr.defers,p1,by simp,fun i s hs=>by simp[phs];exact hslots i s hs,hext0⟩
  ·have:ef.get t=e.get t:=qfi ds _ _ _ _ _ htr fun d hd hdd=>by
    obtain ⟨i,hi⟩:=qub hd;have:=hall i (by simp[qbn,hi,hdd]);rw[hfalse] at this;cases this
   rw[this] at hv;exact hr.tmps t v hv
  ·cases hx:E.ρ (S.length+s) st with
   | none=>rfl
   | some x=>exact absurd (hr.sr.dom _ _ _ hx) (by omega)
theorem qkq{P:Program}{N n0 m0:Nat}{ro:Option Nat}{n id:Nat}{ops:Array Oper}{Q:Post}{ds:List D}{zs:List V}{E:En}{e:Env}{S:St}{a:Act}{w:World}
  (hc:qb0 P N ops=some (ds,zs)) (hr:Rel N n0 m0 E e S a w)
  (h:dwp P S.length ds (dend S.length ds (Q .normal)) e (S++phs zs) [S++phs zs]):(Code.region id ops true).wpIn (qb5 ro) n P (Up N n0 m0 E S w Q) a w:=
 wpIn_region_any (qcR hc).1 (qdI hc hr h)
def qh1(m:Nat)(aft:Nat→List Nat):Nat→List Nat→List Nat
 | 0,S=>S
 | n+1,S=>qh1 m aft n ((List.range m).filter fun i=>S.contains i || S.any fun s=>(aft s).contains i)
theorem qeS{m:Nat}{aft:Nat→List Nat}{C:Nat→Prop}(hC:∀s,C s→∀r,r∈aft s→C r):∀(n:Nat) (S:List Nat),(∀s,s∈S→C s)→∀s,s∈qh1 m aft n S→C s
 | 0,S,h=>h
 | n+1,S,h=>qeS hC n _ fun s hs=>by
  simp only[quV,Bool.or_eq_true,List.contains_iff_mem,qvb] at hs;rcases hs.2 with h1|⟨r,h1,h2⟩
  ·exact h s h1
  ·exact hC r (h r h1) s h2
def qfv(ops:Array Oper):Bool:=
 let m:=ops.size - 1
 let S:=qh1 m (qb6 ops) m (qb6 ops m)
 (List.range m).all (fun i=>S.contains i) && (qb6 ops m).all (fun r=>decide (r<m)) && (List.range m).all (fun i=>(qb6 ops i).all (fun r=>decide (r<i)) && match ops[i]? with
  | some o=>match o.guard with
   | none=>true
   | some (j,_)=>decide (j<m)
  | none=>false)
theorem Oper.wpIn_exit{F:Fence}{n:Nat}{P:Program}{o:Oper}{a:Act}{w:World}{K:Act→World→Prop}{Q Q':Exit→Act→World→Prop}(hq:∀x a w,x≠.normal→Q x a w→Q' x a w)(h:o.wpIn F n P a w K Q):o.wpIn F n P a w K Q':=by
 obtain ⟨h1,h2⟩:=h;have hlet:LetsOut Q→LetsOut Q':=fun ⟨a,w,h⟩=>⟨a,w,hq _ _ _ (by simp) h⟩
 refine ⟨h1,?_⟩;generalize (o.semAt F.round a.eval).run P w=r at h2 ⊢
 cases r with
 | ok nx w'=>
  cases nx <;> simp only[Oper.uponIn] at h2 ⊢
  case value v=>exact h2
  case skip=>exact h2
  case defer d=>exact h2
  case enter f args=>exact ⟨h2.1,h2.2.mono fun e w'' he=>by cases e <;> first|exact he|exact hq _ _ _ (by simp) he|exact hlet he⟩
  case row r args=>exact ⟨h2.1,h2.2.mono fun v w'' he=>he⟩
  case round l f t x y=>exact ⟨h2.1,h2.2.mono fun e w'' he=>by cases e <;> first|exact he|exact hq _ _ _ (by simp) he|exact hlet he⟩
 | halt x w'=>
  cases x <;> simp only[Oper.uponIn] at h2 ⊢
  case panic v=>exact hq _ _ _ (by simp) h2
def qkz(F:Fence)(n:Nat)(P:Program)(ops:Array Oper)(Q:Exit→Act→World→Prop):Exit→Act→World→Prop
 | .normal,a,w=>wpOpIn F n P ops Q (ops.size - 1) (Q .normal) a w
 | x,a,w=>Q x a w
theorem qcG{l:Array Bool}{i:Nat}(d:Bool)(hi:i<l.size):(l.push false).getD i d=l.getD i d:=by
 simp only[Array.getD];rw[dif_pos hi,dif_pos (by simp;omega)];simp[Array.getElem_push_lt hi]
theorem qpo{F:Fence}{n:Nat}{P:Program}{ops':Array Oper}{o:Oper}{Q:Exit→Act→World→Prop}(hall:qfv (ops'.push o)=true):
  ∀(fuel:Nat) (l:Array Bool) (a:Act) (w:World),l.size=ops'.size→(∀s,l.getD s false=true→∀r,r∈qb6 (ops'.push o) s→l.getD r false=true)→l.toList.count false≤fuel→
   wpAnyIn F n P .any ops' (qkz F n P (ops'.push o) Q) fuel l a w→wpAnyIn F n P .any (ops'.push o) Q (fuel+1) (l.push false) a w:=by
 have hm:(ops'.push o).size - 1=ops'.size:=by simp
 simp only[qfv,hm,qtJ,qtY,List.mem_range,List.contains_iff_mem,decide_eq_true_eq] at hall;obtain ⟨⟨hcl,hlast⟩,hgd⟩:=hall;have ho:(ops'.push o)[ops'.size]?=some o:=by simp
 have hget:∀i,i<ops'.size→(ops'.push o)[i]?=ops'[i]?:=fun i hi=>by rw[quA,if_neg (by omega)]
 have haft:∀i o',(ops'.push o)[i]?=some o'→∀e,e∈o'.after→Region.binds .any e=true→e.on∈qb6 (ops'.push o) i:=fun i o' ho' e he hb=>by
  simp only[qb6,ho',qt3,quV];exact ⟨e,⟨by simpa using he,hb⟩,rfl⟩
 have hwait:∀l:Array Bool,l.size=ops'.size→(∀s,l.getD s false=true→∀r,r∈qb6 (ops'.push o) s→l.getD r false=true)→ops'.size∈Region.ready .any (ops'.push o) (l.push false)→∀i,i<ops'.size→l.getD i false=true:=by
  intro l hl hclosed hr i hi;obtain ⟨_,o',ho',hh⟩:=mem_ready.1 hr;rw[ho] at ho';cases ho';refine qeS (C:=fun s=>l.getD s false=true) hclosed ops'.size (qb6 (ops'.push o) ops'.size) (fun s hs=>?_) i (hcl i hi);have hsl:=hlast s hs;simp only[qb6,ho,qt3,quV] at hs;obtain ⟨e,⟨he,hb⟩,rfl⟩:=hs;have:=hh e (by simpa using he) hb;rw[qcG _ (by rw[hl];exact hsl)] at this;exact this
 have hready:∀l:Array Bool,l.size=ops'.size→∀i,i<ops'.size→(i∈Region.ready .any (ops'.push o) (l.push false)↔i∈Region.ready .any ops' l):=by
  intro l hl i hi;rw[mem_ready,mem_ready,hget i hi,qcG _ (by omega)]
  have hafter:∀o',ops'[i]?=some o'→∀e∈o'.after,Region.binds .any e=true→e.on<ops'.size:=by
   intro o' ho' e he hb;have:=(hgd i hi).1 e.on (haft i o' (by rw[hget i hi];exact ho') e he hb);omega
  constructor
  ·rintro ⟨h1,o',h2,h3⟩
   exact ⟨h1,o',h2,fun e he hb=>by
    have:=h3 e he hb;rw[qcG _ (by rw[hl];exact hafter o' h2 e he hb)] at this;exact this⟩
  ·rintro ⟨h1,o',h2,h3⟩
   exact ⟨h1,o',h2,fun e he hb=>by
    rw[qcG _ (by rw[hl];exact hafter o' h2 e he hb)];exact h3 e he hb⟩
 have hrange:∀(l:Array Bool) (i:Nat),i∈Region.ready .any (ops'.push o) (l.push false)→i<ops'.size∨i=ops'.size:=fun l i hi=>by
  obtain ⟨_,o',ho',_⟩:=mem_ready.1 hi;have:=(qtS.1 ho').1;simp at this;omega
 have hnone:∀l:Array Bool,l.size=ops'.size→Region.ready .any ops' l=[]→∀i,i<ops'.size→l.getD i false=true:=by
  intro l hl hr i
  induction i using Nat.strongRecOn with
  | ind i ih=>
   intro hi
   cases hb:l.getD i false with
   | true=>rfl
   | false=>
    exfalso;have hoi:ops'[i]?=some (ops'[i]'hi):=by simp
    have hmem:i∈Region.ready .any ops' l:=by
     refine mem_ready.2 ⟨?_,_,hoi,fun e he hbi=>?_⟩
     ·have hil:i<l.size:=by omega
      simp only[Array.getD,hil,dif_pos] at hb ⊢;exact hb
     ·have hlt:=(hgd i hi).1 e.on (haft i _ (by rw[hget i hi];exact hoi) e he hbi);exact ih _ hlt (by omega)
    rw[hr] at hmem;cases hmem
 have hlastReady:∀l:Array Bool,l.size=ops'.size→(∀i,i<ops'.size→l.getD i false=true)→ops'.size∈Region.ready .any (ops'.push o) (l.push false):=by
  intro l hl hall;refine mem_ready.2 ⟨by simp[Array.getD,hl,Array.getElem_push],o,ho,fun e he hb=>?_⟩;have hlt:=hlast e.on (haft _ o ho e he hb);rw[qcG _ (by omega)];exact hall _ hlt
 have hdone:∀(fuel:Nat) (l:Array Bool) (a:Act) (w:World),l.size=ops'.size→(∀i,i<ops'.size→l.getD i false=true)→Q .normal a w→wpAnyIn F n P .any (ops'.push o) Q fuel ((l.push false).setIfInBounds ops'.size true) a w:=by
  intro fuel l a w hl hall hQ
  have hempty:Region.ready .any (ops'.push o) ((l.push false).setIfInBounds ops'.size true)=[]:=by
   cases hr:Region.ready .any (ops'.push o) ((l.push false).setIfInBounds ops'.size true) with
   | nil=>rfl
   | cons i r=>
    exfalso;have hi:i∈Region.ready .any (ops'.push o) ((l.push false).setIfInBounds ops'.size true):=by rw[hr];simp
    obtain ⟨h1,o',ho',_⟩:=mem_ready.1 hi;have hlt:=(qtS.1 ho').1;simp only[Array.size_push] at hlt
    have htrue:((l.push false).setIfInBounds ops'.size true).getD i false=true:=by
     rw[qct (by simp;omega)];by_cases hil:i=ops'.size
     ·exact .inl hil
     ·right;rw[qcG _ (by omega)];exact hall i (by omega)
    obtain ⟨h2,h3⟩:=qck.1 h1;obtain ⟨h4,h5⟩:=qch.1 htrue;rw[h3] at h5;cases h5
  cases fuel with
  | zero=>exact ⟨hempty,hQ⟩
  | succ f=>exact ⟨fun _=>hQ,fun i hi=>by rw[hempty] at hi;cases hi⟩
 have hopmono:∀{i:Nat} {K K':Act→World→Prop} {a:Act} {w:World},(∀a w,K a w→K' a w)→wpOpIn F n P (ops'.push o) Q i K a w→wpOpIn F n P (ops'.push o) Q i K' a w:=by
  intro i K K' a w hK h;unfold wpOpIn at h ⊢;split
  ·rename_i h1;rw[h1] at h;exact hK _ _ h
  ·rename_i o1 h1;rw[h1] at h;simp only at h;split
   ·rename_i hw;rw[if_pos hw] at h;exact Oper.wpIn_mono hK h
   ·rename_i hw;rw[if_neg hw] at h;exact ⟨h.1,hK _ _ h.2⟩
 have last:∀(fuel:Nat) (l:Array Bool) (a:Act) (w:World),l.size=ops'.size→(∀i,i<ops'.size→l.getD i false=true)→qkz F n P (ops'.push o) Q .normal a w→
   wpOpIn F n P (ops'.push o) Q ops'.size (wpAnyIn F n P .any (ops'.push o) Q fuel ((l.push false).setIfInBounds ops'.size true)) a w:=by
  intro fuel l a w hl hall h;simp only[qkz,hm] at h;exact hopmono (fun a w hq=>hdone fuel l a w hl hall hq) h
 intro fuel
 induction fuel with
 | zero=>
  intro l a w hl hclosed hc h;obtain ⟨h1,h2⟩:=h;have hall:=hnone l hl h1;refine ⟨fun hr=>?_,fun i hi=>?_⟩
  ·have:=hlastReady l hl hall;rw[hr] at this;cases this
  ·rcases hrange l i hi with hlt|rfl
   ·rw[hready l hl i hlt,h1] at hi;cases hi
   ·exact last 0 l a w hl hall h2
 | succ fuel ih=>
  intro l a w hl hclosed hc h;obtain ⟨h1,h2⟩:=h;refine ⟨fun hr=>?_,fun i hi=>?_⟩
  ·have hr':Region.ready .any ops' l=[]:=by
    cases hq:Region.ready .any ops' l with
    | nil=>rfl
    | cons j r=>
     exfalso;have hj:j∈Region.ready .any ops' l:=by rw[hq];simp
     obtain ⟨_,o',ho',_⟩:=mem_ready.1 hj;have hlt:=(qtS.1 ho').1;rw[←hready l hl j hlt,hr] at hj;cases hj
   have:=hlastReady l hl (hnone l hl hr');rw[hr] at this;cases this
  ·rcases hrange l i hi with hlt|rfl
   ·have hi':=(hready l hl i hlt).1 hi;have hop:=h2 i hi';obtain ⟨hun,o1,ho1,_⟩:=mem_ready.1 hi'
    have hset:(l.push false).setIfInBounds i true=(l.setIfInBounds i true).push false:=by
     apply qvc;intro j;rw[Array.getElem?_setIfInBounds,quA,quA,Array.getElem?_setIfInBounds];simp only[Array.size_push,Array.size_setIfInBounds];by_cases hij:i=j
     ·subst hij;rw[if_pos rfl,if_pos (by omega),if_neg (by omega),if_pos rfl,if_pos (by omega)]
     ·rw[if_neg hij,if_neg hij]
    have hnext:∀a' w',wpAnyIn F n P .any ops' (qkz F n P (ops'.push o) Q) fuel (l.setIfInBounds i true) a' w'→wpAnyIn F n P .any (ops'.push o) Q (fuel+1) ((l.push false).setIfInBounds i true) a' w':=by
     intro a' w' h';rw[hset];refine ih _ a' w' (by simpa using hl) (fun s hs r hr=>?_) ?_ h'
     ·rw[qct (by omega)] at hs ⊢;rcases hs with rfl|hs
      ·right;obtain ⟨_,o2,ho2,hall2⟩:=mem_ready.1 hi';simp only[qb6,hget s hlt,ho2,qt3,quV] at hr;obtain ⟨e,⟨he,hb⟩,rfl⟩:=hr;exact hall2 e (by simpa using he) hb
      ·exact .inr (hclosed s hs r hr)
     ·have:=count_set hun;omega
    unfold wpOpIn at hop ⊢;rw[hget i hlt,ho1];rw[ho1] at hop;simp only at hop ⊢
    have hwd:Region.wanted o1 (yielded (ops'.push o) a.tmps)=Region.wanted o1 (yielded ops' a.tmps):=by
     have hg:=(hgd i hlt).2;rw[hget i hlt,ho1] at hg;simp only at hg;unfold Region.wanted;split
     ·rfl
     ·rename_i j want hgj;rw[hgj] at hg;simp only[decide_eq_true_eq] at hg;simp only[yielded,hget j hg]
    rw[hwd];split
    ·rename_i hw;rw[if_pos hw] at hop;refine Oper.wpIn_exit (fun x a w hx hq=>?_) (Oper.wpIn_mono hnext hop);cases x <;> first|exact absurd rfl hx|exact hq
    ·rename_i hw;rw[if_neg hw] at hop;exact ⟨hop.1,hnext _ _ hop.2⟩
   ·have hall:=hwait l hl hclosed hi
    have hr':Region.ready .any ops' l=[]:=by
     cases hq:Region.ready .any ops' l with
     | nil=>rfl
     | cons j r=>
      exfalso;have hj:j∈Region.ready .any ops' l:=by rw[hq];simp
      obtain ⟨h3,o',ho',_⟩:=mem_ready.1 hj;have hlt:=(qtS.1 ho').1;obtain ⟨h4,h5⟩:=qck.1 h3;obtain ⟨h6,h7⟩:=qch.1 (hall j hlt);rw[h5] at h7;cases h7
    exact last (fuel+1) l a w hl hall (h1 hr')
theorem qe1{F:Fence}{n:Nat}{P:Program}{ops:Array Oper}{md:Region.Mode}{Q Q':Exit→Act→World→Prop}(hq:∀x a w,Q x a w→Q' x a w):∀(fuel:Nat) (l:Array Bool) (a:Act) (w:World),wpAnyIn F n P md ops Q fuel l a w→wpAnyIn F n P md ops Q' fuel l a w
 | 0,l,a,w,h=>⟨h.1,hq _ _ _ h.2⟩
 | fuel+1,l,a,w,h=>by
  refine ⟨fun hr=>hq _ _ _ (h.1 hr),fun i hi=>?_⟩;have hop:=h.2 i hi;unfold wpOpIn at hop ⊢;split
  ·rename_i h1;rw[h1] at hop;exact qe1 hq fuel _ _ _ hop
  ·rename_i o1 h1;rw[h1] at hop;simp only at hop;split
   ·rename_i hw;rw[if_pos hw] at hop;exact Oper.wpIn_exit (fun x a w _ hx=>hq x a w hx) (Oper.wpIn_mono (fun a w hx=>qe1 hq fuel _ _ _ hx) hop)
   ·rename_i hw;rw[if_neg hw] at hop;exact ⟨hop.1,qe1 hq fuel _ _ _ hop.2⟩
def qc2(P:Program)(o':O')(Q:Post):Post
 | .normal,e,S=>wops P [o'] (Q .normal) e S
 | x,e,S=>Q x e S
theorem qin{P:Program}{N n0 m0:Nat}{ro:Option Nat}{n id:Nat}{ops:Array Oper}{Q:Post}{ds:List D}{zs:List V}{o:Oper}{o':O'}{E:En}{e:Env}{S:St}{a:Act}{w:World}
  (hc:qb0 P N ops=some (ds,zs)) (hall:qfv (ops.push o)=true) (ho:qbr P N (ops.push o) o=some o') (hr:Rel N n0 m0 E e S a w)
  (h:dwp P S.length ds (dend S.length ds (qc2 P o' Q .normal)) e (S++phs zs) [S++phs zs]):(Code.region id (ops.push o) true).wpIn (qb5 ro) n P (Up N n0 m0 E S w Q) a w:=by
 refine wpIn_region_any (qcR hc).1 ?_;have h1:=qdI (ro:=ro) (n:=n) (Q:=qc2 P o' Q) hc hr h
 have h2:=qe1 (Q':=qkz (qb5 ro) n P (ops.push o) (Up N n0 m0 E S w Q)) (fun x a1 w1 hx=>by
  cases x <;> try exact hx
  obtain ⟨E',e',S',r,xt,q⟩:=hx;have hw:=qbI (n:=n) (ro:=ro) (Q:=Q) (ops:=ops.push o) [o] [o'] E' e' S' a1 w1 (by simp[ho]) r q;have hw:=qaS (Q':=Up N n0 m0 E S w Q) (fun x a' w'' hq=>hq.back xt) hw;simp only[qkz,Array.size_push,Nat.add_sub_cancel];unfold wpOpIn;rw[show (ops.push o)[ops.size]?=some o by simp];exact hw) ops.size _ a _ h1
 have h3:=qpo hall ops.size (Array.replicate ops.size false) a _ (by simp) (fun s hs=>by
  have:(Array.replicate ops.size false).getD s false=false:=by
   simp only[Array.getD];split <;> simp
  rw[this] at hs;cases hs) (by simp) h2
 rw[Array.size_push,Array.replicate_succ];exact h3
inductive C' where
 | skip
 | reg (ops:List O')
 | draw (ds:List D) (zs:List V)
 | drawl (ds:List D) (zs:List V) (o:O')
 | seq (a b:C')
 | cond (c:Opd) (a b:C')
 | block (id:Nat) (c:C')
 | scope (c:C')
 | loop (c:C')
 | exit (id:Nat)
 | ret
 | bad
 | rf (g:Opd) (ps:List Nat) (asg body:Code) (ca cb:C') (N:Nat) (ts:List Nat)
 deriving Inhabited
def C'.noRf:C'→Bool
 | .seq a b|.cond _ a b=>a.noRf && b.noRf
 | .block _ c|.scope c|.loop c=>c.noRf
 | .rf ..=>false
 | _=>true
def C'.uses:C'→List Nat
 | .reg ops=>ops.flatMap O'.tmps
 | .draw ds _=>ds.flatMap fun d=>d.o.tmps
 | .drawl ds _ o=>(ds.flatMap fun d=>d.o.tmps)++o.tmps
 | .seq a b=>a.uses++b.uses
 | .cond c a b=>c.tmps++a.uses++b.uses
 | .block _ c|.scope c|.loop c=>c.uses
 | _=>[]
def qtx:K→Bool
 | .call ..=>true
 | .ex (.nxt _)=>true
 | .ex (.eqn ..)=>true
 | _=>false
def qe4(P:Program)(N:Nat)(ops:Array Oper):Option (List D×List V×O'):=
 match ops.back? with
 | none=>none
 | some o=>if qfv ops=true then match qbr P N ops o with
   | some o'=>if qtx o'.k=true then (qb0 P N ops.pop).map fun p=>(p.1,p.2,o') else none
   | none=>none
  else none
theorem qgT{P:Program}{N:Nat}{ops:Array Oper}{ds:List D}{zs:List V}{o':O'}(h:qe4 P N ops=some (ds,zs,o')):∃ops' o,ops=ops'.push o∧qfv (ops'.push o)=true∧qbr P N (ops'.push o) o=some o'∧qb0 P N ops'=some (ds,zs):=by
 unfold qe4 at h;split at h
 ·cases h
 ·rename_i o ho;split at h <;> try cases h
  rename_i hl;split at h <;> try cases h
  rename_i o1 hc;split at h <;> try cases h
  cases hp:qb0 P N ops.pop with
  | none=>rw[hp] at h;cases h
  | some p=>
   rw[hp] at h;simp only[qtU,Option.some.injEq,Prod.mk.injEq] at h;obtain ⟨h1,h2,h3⟩:=h
   have hpush:ops=ops.pop.push o:=by
    obtain ⟨l⟩:=ops;rw[Array.back?_eq_getElem?] at ho;obtain ⟨hlt,ho⟩:=qtS.1 ho;apply qvc;intro j;rw[quA];simp only[Array.size_pop];split
    ·rename_i hj;subst hj;rw[←ho];simp
    ·rename_i hj;rw[Array.getElem?_pop];split
     ·rfl
     ·rw[quY (by omega)]
   refine ⟨ops.pop,o,hpush,by rw[←hpush];exact hl,by rw[←hpush,←h3];exact hc,by rw[hp,←h1,←h2]⟩
def comp(P:Program)(N:Nat):Code→Option C'
 | .skip=>some .skip
 | .label _=>some .skip
 | .region _ ops draw=>if draw then match qe4 P N ops with
   | some p=>some (.drawl p.1 p.2.1 p.2.2)
   | none=>match qb0 P N ops with
    | some p=>some (.draw p.1 p.2)
    | none=>some .bad
  else match ops.toList.mapM (qbr P N ops) with
   | some l=>some (.reg l)
   | none=>some .bad
 | .seq a b=>match comp P N a,comp P N b with
  | some a,some b=>some (.seq a b)
  | _,_=>none
 | .cond c a b=>match qam c,comp P N a,comp P N b with
  | some c,some a,some b=>some (.cond c a b)
  | _,_,_=>none
 | .block id c=>(comp P N c).map (.block id)
 | .scope c=>(comp P N c).map .scope
 | .loop c=>(comp P N c).map .loop
 | .exit id=>some (.exit id)
 | .ret=>some .ret
 | .rangeFunc f ps asg body=>match qam f,comp P N asg,comp P N body with
  | some g,some ca,some cb=>if (ca.noRf && cb.noRf && ps.toList.all fun p=>decide (p<N))=true then some (.rf g ps.toList asg body ca cb N (qnG (ca.uses++cb.uses))) else some .bad
  | _,_,_=>some .bad
 | _=>some .bad
def qdQ(N:Env→St→Prop)(Q:Post):Post
 | .normal,e,S=>N e S
 | x,e,S=>Q x e S
def qdr(id:Nat)(Q:Post):Post
 | .exit id',e,S=>if id'=id then Q .normal e S else Q (.exit id') e S
 | x,e,S=>Q x e S
def qeQ(Q:Post):Post
 | .goto _,_,_=>False
 | x,e,S=>Q x e S
theorem qbV{P:Program}{b:Frame}{a:Act}{k:List Item}{cs:List Frame}{w:World}{c:Code}:step P (lone (b.atR a (.code (.scope c)::k)) cs w)=.next (lone (b.atR a (.code c::.inScope c::k)) cs w):=
 step_lone_go (by simp[stepG,stepG.exec,Frame.atR])
theorem qgZ{P:Program}{b:Frame}{a:Act}{k:List Item}{cs:List Frame}{w:World}{c:Code}:step P (lone (b.atR a (.inScope c::k)) cs w)=.next (lone (b.atR a k) cs w):=
 step_lone_go (by simp[stepG,stepG.exec,Frame.atR])
theorem qkc{F:Fence}{n:Nat}{P:Program}{c:Code}{Q:Exit→Act→World→Prop}{a:Act}{w:World}(h:c.wpIn F n P (Exit.noGoto Q) a w):(Code.scope c).wpIn F n P Q a w:=by
 intro b k cs hro hb hr;have h0:(lone (b.atR a (.code (.scope c)::k)) cs w).fenced P F:=fenced_calm hb hr rfl;obtain ⟨e,a₁,w₁,hq,harr⟩:=h b (.inScope c::k) cs hro hb hr
 cases e with
 | normal=>exact ⟨.normal,a₁,w₁,hq,.head h0 qbV (StepsIn.trans harr (.one (fenced_calm hb hr rfl) qgZ))⟩
 | exit id'=>
  have hx:exitTo id' (.inScope c::k)=exitTo id' k:=by simp[exitTo]
  exact ⟨.exit id',a₁,w₁,hq,fun k' hk=>.head h0 qbV (harr.1 k' (by rw[hx];exact hk)),
   fun hr' hk=>let ⟨k₁,h1,h2⟩:=harr.2 hr' (by rw[hx];exact hk);⟨k₁,h1,.head h0 qbV h2⟩⟩
 | goto l=>exact hq.elim
 | ret=>exact ⟨_,a₁,w₁,hq,.of_steps (.one h0 qbV) harr⟩
 | panic ch=>exact ⟨_,a₁,w₁,hq,.of_steps (.one h0 qbV) harr⟩
 | outgrown=>exact ⟨_,a₁,w₁,hq,.of_steps (.one h0 qbV) harr⟩
def WP(P:Program):C'→Post→Env→St→Prop
 | .skip,Q,e,S=>Q .normal e S
 | .reg ops,Q,e,S=>wops P ops (Q .normal) e S
 | .draw ds zs,Q,e,S=>dwp P S.length ds (dend S.length ds (Q .normal)) e (S++phs zs) [S++phs zs]
 | .drawl ds zs o,Q,e,S=>dwp P S.length ds (dend S.length ds (qc2 P o Q .normal)) e (S++phs zs) [S++phs zs]
 | .seq a b,Q,e,S=>WP P a (qdQ (WP P b Q) Q) e S
 | .cond c a b,Q,e,S=>match c.ev e with
  | some (.bool t)=>(t=true→WP P a Q e S)∧(t=false→WP P b Q e S)
  | _=>False
 | .block id c,Q,e,S=>WP P c (qdr id Q) e S
 | .scope c,Q,e,S=>WP P c (qeQ Q) e S
 | .loop c,Q,e,S=>∃(I:Nat→Env→St→Prop) (n:Nat),(∃e',Env.sub e' e∧I n e' S)∧∀n e S,I n e S→WP P c (qdQ (fun e S=>∃n',n'<n∧∃e',Env.sub e' e∧I n' e' S) Q) e S
 | .exit id,Q,e,S=>Q (.exit id) e S
 | .ret,Q,e,S=>Q .ret e S
 | .bad,_,_,_=>False
 | .rf g ps asg body ca cb N ts,Q,e,S=>comp P N asg=some ca→comp P N body=some cb→match g.ev e with
  | some (.fn (.func k) fs cs)=>∃R,Spec P k (fs++[.yld S.length]++cs) (S++[.loop ⟨.ready,none,ps,asg,body,e.keep ts,N⟩]) R∧∀r S',R r S'→∃i,S'[S.length]?=some (.loop i)∧i.st≠.busy∧
   match i.pend with
   | none=>Q .normal e (S'.set S.length (.loop { i with st:=.exhausted }))
   | some .ret=>Q .ret e (S'.set S.length (.loop { i with st:=.exhausted }))
   | some (.exit id)=>Q (.exit id) e (S'.set S.length (.loop { i with st:=.exhausted }))
   | some _=>False
  | _=>False
theorem Rel.sub{N n0 m0:Nat}{E:En}{e e':Env}{S:St}{a:Act}{w:World}(h:Rel N n0 m0 E e S a w)(hs:Env.sub e' e):Rel N n0 m0 E e' S a w:=
 ⟨fun t v hv=>h.tmps t v (hs t v hv),h.size,h.defers,h.base,h.sr⟩
theorem Up.then{N n0 m0:Nat}{E:En}{S:St}{w:World}{M:Env→St→Prop}{Q:Post}{x:Exit}{a:Act}{w':World}{next:Act→World→Prop}(h:Up N n0 m0 E S w (qdQ M Q) x a w')
  (hn:∀E' e' S',Rel N n0 m0 E' e' S' a w'→Ext n0 E S w E' S' w'→M e' S'→next a w'):Exit.then next (Up N n0 m0 E S w Q) x a w':=by
 obtain ⟨E',e',S',r,ex,q⟩:=h;cases x <;> first|exact hn E' e' S' r ex q|exact ⟨E',e',S',r,ex,q⟩
theorem Ext.push{E:En}{S:St}{w:World}(h:SR E S w)(o:Obj):SR E S { w with heap:=w.heap.push o }∧∀n,Ext n E S w E S { w with heap:=w.heap.push o }:=by
 refine ⟨⟨h.gl.old (fun _ _ _ h=>h) (fun b _ _ _ hb _=>qbk (qdV hb)),fun b o' c hc=>?_,fun l ob hl=>?_,h.dom,h.apart,fun b hb=>?_,h.inj⟩,fun n=>⟨by simp,fun _ _ _ h=>h,fun _ _ _ _ h=>h,fun _ _ h=>h,fun _ h=>.inl h,fun _ _ _ h=>.inl h,fun b hb _=>qbk hb,rfl⟩⟩
 ·have:=h.I b o' c hc;rw[cell?_heap (qbk (cell?_lt this))];exact this
 ·by_cases hd:ob=.dead
  ·subst hd;trivial
  exact (h.obs l ob hl).mono (En.le_refl E) (fun _ _ hx=>hx) (fun st x hx=>qbk (h.lt _ ⟨l,st,x,⟨ob,hl,hd⟩,hx,rfl⟩))
 ·have:=h.lt b hb;simp;omega
theorem SR.loopSet{E:En}{S:St}{w:World}(h:SR E S w){l:Nat}{i i':LI}{x:Blk}{r r':Loop}(hl:S[l]?=some (.loop i))(hx:E.ρ l 0=some x)(hr:w.heap[x.b]?=some (.loop r))
  (h1:r'.state=i'.st) (h2:r'.pending=i'.pend) (h3:r'.params.toList=i'.ps) (h4:r'.assign=i'.asg) (h5:r'.body=i'.body) (h6:r'.tmps.size=i'.N) (h7:Tmps E i'.e r'.tmps):
  SR E (S.set l (.loop i')) (w.putObj x.b (.loop r'))∧Ext S.length E S w E (S.set l (.loop i')) (w.putObj x.b (.loop r')):=by
 have hlt:x.b<w.heap.size:=(qtS.1 hr).1;have hlive:live S l:=⟨_,hl,by simp⟩;refine h.change (E':=E) (w':=w.putObj x.b (.loop r')) hlive rfl (En.le_refl E) (fun _ _ _=>rfl) (fun st z hz=>.inl ⟨st,z,hz,rfl⟩) (by simp[World.putObj]) (fun b hb' hne=>?_) rfl ⟨x,r',hx,?_,h1,h2,h3,h4,h5,h6,h7⟩
 ·show (w.heap.setIfInBounds x.b _)[b]?=_;rw[qt5 (hne 0 x hx)]
 ·show (w.heap.setIfInBounds x.b _)[x.b]?=_;simp[hlt]
theorem qoG{P:Program}{N n0 m0 n:Nat}{f:Operand}{g:Opd}{ps:Array Tmp}{asg body:Code}{ts:List Nat}{Q:Post}{E:En}{e:Env}{S:St}{a:Act}{w:World}(hg:qam f=some g)
  (h:Unit→match g.ev e with
  | some (.fn (.func k) fs cs)=>∃R,Spec P k (fs++[.yld S.length]++cs) (S++[.loop ⟨.ready,none,ps.toList,asg,body,e.keep ts,N⟩]) R∧∀r S',R r S'→∃i,S'[S.length]?=some (.loop i)∧i.st≠.busy∧
   match i.pend with
   | none=>Q .normal e (S'.set S.length (.loop { i with st:=.exhausted }))
   | some .ret=>Q .ret e (S'.set S.length (.loop { i with st:=.exhausted }))
   | some (.exit id)=>Q (.exit id) e (S'.set S.length (.loop { i with st:=.exhausted }))
   | some _=>False
  | _=>False) (hr:Rel N n0 m0 E e S a w):(Code.rangeFunc f ps asg body).wpIn (qb5 none) n P (Up N n0 m0 E S w Q) a w:=by
 have h:=h ();split at h <;> try exact h.elim
 rename_i k fs cs hv;obtain ⟨R,hspec,hnext⟩:=h;have hfv:=qaw hr.tmps hg hv;generalize hu:a.eval f=u at hfv
 obtain ⟨us,ws,rfl,b1,b2,b3,b4⟩:∃us ws,u=.func (.func k) us ws∧fs.length=us.size∧cs.length=ws.size∧(∀(i:Nat) (v:V) (u:Value),fs[i]?=some v→us[i]?=some u→VR E v u)∧(∀(i:Nat) (v:V) (u:Value),cs[i]?=some v→ws[i]?=some u→VR E v u):=by
  cases hfv with
  | fn h1 h2 g1 g2=>exact ⟨_,_,rfl,h1,h2,g1,g2⟩
 refine wpIn_rangeFunc fun fn _=>?_
 let w1:World:={ w with heap:=w.heap.push (.deferred (some [])) }
 obtain ⟨p1,p2⟩:=Ext.push hr.sr (.deferred (some []))
 let rec0:Loop:={ state:=.ready,pending:=none,fn,tmps:=a.tmps,params:=ps,assign:=asg,body,defers:=w.heap.size }
 let w2:World:={ w1 with heap:=w1.heap.push (.loop rec0) }
 have hsz1:w1.heap.size=w.heap.size+1:=by simp[w1]
 have hno:E.ρ S.length 0=none:=by
  cases hx:E.ρ S.length 0 with
  | none=>rfl
  | some y=>exact absurd (hr.sr.dom _ _ _ hx) (by omega)
 obtain ⟨q1,q2⟩:=p1.new (o:=.loop rec0) (ob:=.loop ⟨.ready,none,ps.toList,asg,body,e.keep ts,N⟩) (st:=0) (N:=0) (sz:=0) ⟨⟨w1.heap.size,0,0⟩,rec0,qa8,qcT,rfl,rfl,rfl,rfl,rfl,hr.size,(hr.tmps.keep ts).mono (qfp hno)⟩;have hle:E.le (E.at S.length 0 ⟨w1.heap.size,0,0⟩):=qfp hno;have hext:Ext S.length E S w (E.at S.length 0 ⟨w1.heap.size,0,0⟩) _ w2:=(p2 S.length).trans q2
 have hmarks:qeo m0 (E.at S.length 0 ⟨w1.heap.size,0,0⟩) (S++[.loop ⟨.ready,none,ps.toList,asg,body,e.keep ts,N⟩]) w2 ([{ target:=.collected w.heap.size,args:=#[] }]++a.defers):=by
  have hm:=qeo.step hext hr.defers;refine ⟨hm.1,⟨w.heap.size,rfl,hr.defers.1,?_,fun ho=>?_,fun d' hd' he=>?_⟩,hm.2⟩
  ·show (w1.heap.push _)[w.heap.size]?=_;rw[quA,if_neg (by omega)];simp[w1]
  ·rcases q2.own _ ho with ho|ho
   ·exact absurd (hr.sr.lt _ ho) (by omega)
   ·exact absurd (show w1.heap.size≤w.heap.size from ho) (by omega)
  ·have:∀(l:List Deferred),qdJ m0 E S w l→∀d,d∈l→∃r,d.target=.collected r∧r<w.heap.size:=by
    intro l
    induction l with
    | nil=>intro _ d hd;cases hd
    | cons d0 l ih=>
     rintro ⟨⟨r,k1,_,k3,_⟩,hl⟩ d hd;rcases quc.1 hd with rfl|hd
     ·exact ⟨r,k1,(qtS.1 k3).1⟩
     ·exact ih hl d hd
   obtain ⟨r,k1,k2⟩:=this _ hr.defers.2 d' hd';rw[he] at k1;cases k1;omega
 have hyld:VR (E.at S.length 0 ⟨w1.heap.size,0,0⟩) (.yld S.length) (.func (.yield (w.heap.size+1)) #[] #[]):=by
  have:=VR.yld (E:=E.at S.length 0 ⟨w1.heap.size,0,0⟩) (l:=S.length) (x:=⟨w1.heap.size,0,0⟩) qa8;rw[hsz1] at this ⊢;exact this
 refine ⟨w.heap.size+1,[{ target:=.collected w.heap.size,args:=#[] }],w2,{ target:=.fn (.func k) ws,args:=us++#[.func (.yield (w.heap.size+1)) #[] #[]] },w2,k,us++#[.func (.yield (w.heap.size+1)) #[] #[]]++ws,w2,?_,?_,fun _ _=>trivial,?_,fun hd=>by simp[qb5,Fence.wide] at hd,?_⟩
 ·exact run_enterLoop_outer fn a.tmps ps asg body
 ·simp only[resolve,rangeCall,hu,Deferred.ofValue,Sem.run_bind,Sem.run_pure,Result.andThen];rw[show Array.map a.eval #[Operand.const (Value.func (Fn.yield (w.heap.size+1)) #[] #[])]=#[Value.func (Fn.yield (w.heap.size+1)) #[] #[]] by simp[Act.eval]]
 ·simp only[invoke];exact hspec.1 _ w2
 ·have hargs:VRs (E.at S.length 0 ⟨w1.heap.size,0,0⟩) (fs++[.yld S.length]++cs) (us++#[.func (.yield (w.heap.size+1)) #[] #[]]++ws):=by
   refine ⟨by simp[b1,b2];omega,fun i v u hv hu=>?_⟩;rw[qt1] at hv;rw[Array.append_assoc] at hu;by_cases hi:i<fs.length
   ·rw[qtD hi] at hv;rw[quy (by omega)] at hu;exact (b3 i v u hv hu).mono hle
   ·rw[qtC (by omega)] at hv;rw[quT (by omega),←b1] at hu;by_cases hj:i - fs.length=0
    ·rw[hj] at hv hu;rw[quy (by simp)] at hu;simp at hv hu;subst hv;subst hu;exact hyld
    ·rw[qtC (by simp;omega)] at hv;rw[quT (by simp;omega)] at hu;exact (b4 _ v u (by simpa using hv) (by simpa using hu)).mono hle
  refine CallsIn.mono (hspec.2 _ w2 _ (n - 1) q1 hargs) ?_;rintro ed w3 ⟨uv,r,E',S',rfl,hR,hvr,hsr,hext',hlen⟩;obtain ⟨i,hi,hst,hq⟩:=hnext r S' hR;obtain ⟨x,rc,r1,r2,r3,r4,r5,r6,r7,r8,r9⟩:=hsr.obs _ _ hi
  have hx:x.b=w.heap.size+1:=by
   have hlt:S.length<(S++[Ob.loop ⟨.ready,none,ps.toList,asg,body,e.keep ts,N⟩]).length:=by simp
   have:=hext'.ρ S.length 0 _ hlt qa8;rw[r1] at this;cases this;exact hsz1
  rw[hx] at r2;have hnb:rc.state≠.busy:=by rw[r3];exact hst
  obtain ⟨s1,s2⟩:=hsr.loopSet (i':={ i with st:=.exhausted }) (r':={ rc with state:=.exhausted }) hi r1 (by rw[hx];exact r2) rfl r4 r5 r6 r7 r8 r9;rw[hx] at s1 s2;have hbase:S.length≤S'.length:=by simp at hlen;omega
  have hrel:Rel N n0 m0 E' e (S'.set S.length (.loop { i with st:=.exhausted })) { a with defers:=[{ target:=.collected w.heap.size,args:=#[] }]++a.defers } (w3.putObj (w.heap.size+1) (.loop { rc with state:=.exhausted })):=by
   refine ⟨(hr.tmps.mono hle).mono (hext'.le q1),hr.size,?_,by simp;exact quF hr.base hbase,s1⟩;exact qeo.step s2 (qeo.step hext' hmarks)
  have hxx:Ext n0 E S w E' (S'.set S.length (.loop { i with st:=.exhausted })) (w3.putObj (w.heap.size+1) (.loop { rc with state:=.exhausted })):=
   (hext.less hr.base).trans ((hext'.less (quF hr.base (by simp))).trans (s2.less (quF hr.base hbase)))
  refine ⟨rc.pending,_,run_endLoop r2 hnb,?_⟩;generalize hpd:rc.pending=pd;rw[hpd] at r4;have hrel':=hrel;have hxx':=hxx;rw[hpd] at hrel' hxx';split at hq
  ·rename_i hp;rw[hp] at r4;subst r4;exact ⟨E',e,_,hrel',hxx',hq⟩
  ·rename_i hp;rw[hp] at r4;subst r4;exact wpIn_ret ⟨E',e,_,hrel',hxx',hq⟩
  ·rename_i id hp;rw[hp] at r4;subst r4;exact wpIn_exit ⟨E',e,_,hrel',hxx',hq⟩
  ·exact hq.elim
theorem qgU{P:Program}{N n0 m0:Nat}{ro:Option Nat}{n:Nat}:∀(c:Code) (c':C') (Q:Post) (E:En) (e:Env) (S:St) (a:Act) (w:World),
  comp P N c=some c'→Rel N n0 m0 E e S a w→WP P c' Q e S→(ro=none∨c'.noRf=true)→c.wpIn (qb5 ro) n P (Up N n0 m0 E S w Q) a w:=by
 intro c
 induction c with
 | skip=>
  intro c' Q E e S a w hc hr h hro;simp only[comp] at hc;cases hc;exact wpIn_skip ⟨E,e,S,hr,Ext.refl _ _ _ _,h⟩
 | label l=>
  intro c' Q E e S a w hc hr h hro;simp only[comp] at hc;cases hc;exact wpIn_label ⟨E,e,S,hr,Ext.refl _ _ _ _,h⟩
 | region id ops draw=>
  intro c' Q E e S a w hc hr h hro;simp only[comp] at hc;split at hc
  ·rename_i hd;subst hd
   cases hd:qe4 P N ops with
   | some p=>
    obtain ⟨ds,zs,o'⟩:=p;rw[hd] at hc;cases hc;obtain ⟨ops',o,rfl,h1,h2,h3⟩:=qgT hd;exact qin h3 h1 h2 hr h
   | none=>
   rw[hd] at hc;simp only at hc
   cases hl:qb0 P N ops with
   | none=>rw[hl] at hc;cases hc;exact h.elim
   | some p=>
    rw[hl] at hc;cases hc;exact qkq hl hr h
  ·rename_i hd;have:draw=false:=by simpa using hd
   subst this
   cases hl:ops.toList.mapM (qbr P N ops) with
   | none=>rw[hl] at hc;cases hc;exact h.elim
   | some l'=>
    rw[hl] at hc;cases hc;exact wpIn_region_list (qbI ops.toList l' E e S a w hl hr h)
 | seq x y ihx ihy=>
  intro c' Q E e S a w hc hr h hro;simp only[comp] at hc;split at hc <;> cases hc;rename_i x' y' hx hy;refine wpIn_seq (wpIn_mono (ihx x' _ E e S a w hx hr h (hro.imp (fun h=>h) fun h=>by simp[C'.noRf] at h;exact h.1)) fun ex a' w' hq=>?_);exact hq.then fun E' e' S' r x q=>wpIn_mono (ihy y' Q E' e' S' a' w' hy r q (hro.imp (fun h=>h) fun h=>by simp[C'.noRf] at h;exact h.2)) fun ex a'' w'' g=>g.back x
 | cond c x y ihx ihy=>
  intro c' Q E e S a w hc hr h hro;simp only[comp] at hc;split at hc <;> cases hc;rename_i c' x' y' hcc hx hy;simp only[WP] at h;split at h
  ·rename_i t ht;have hv:=qaw hr.tmps hcc ht;generalize hu:a.eval c=u at hv;cases hv;refine wpIn_cond_split hu (fun ht=>ihx x' Q E e S a w hx hr (h.1 ht) (hro.imp (fun h=>h) fun h=>by simp[C'.noRf] at h;exact h.1)) (fun ht=>ihy y' Q E e S a w hy hr (h.2 ht) (hro.imp (fun h=>h) fun h=>by simp[C'.noRf] at h;exact h.2))
  ·exact h.elim
 | block id c ih=>
  intro c' Q E e S a w hc hr h hro;simp only[comp] at hc
  cases hx:comp P N c with
  | none=>rw[hx] at hc;cases hc
  | some x'=>
   rw[hx] at hc;cases hc;refine wpIn_block (wpIn_mono (ih x' _ E e S a w hx hr h (hro.imp (fun h=>h) fun h=>by simp[C'.noRf] at h;exact h)) fun ex a' w' hq=>?_);obtain ⟨E',e',S',r,x,q⟩:=hq;cases ex <;> simp only[Exit.inBlock,qdr] at q ⊢<;> try exact ⟨E',e',S',r,x,q⟩
   split
   ·rename_i hid;rw[if_pos hid] at q;exact ⟨E',e',S',r,x,q⟩
   ·rename_i hid;rw[if_neg hid] at q;exact ⟨E',e',S',r,x,q⟩
 | scope c ih=>
  intro c' Q E e S a w hc hr h hro;simp only[comp] at hc
  cases hx:comp P N c with
  | none=>rw[hx] at hc;cases hc
  | some x'=>
   rw[hx] at hc;cases hc;refine qkc (wpIn_mono (ih x' _ E e S a w hx hr h (hro.imp (fun h=>h) fun h=>by simp[C'.noRf] at h;exact h)) fun ex a' w' hq=>?_);obtain ⟨E',e',S',r,x,q⟩:=hq;cases ex <;> simp only[Exit.noGoto,qeQ] at q ⊢<;> exact ⟨E',e',S',r,x,q⟩
 | loop c ih=>
  intro c' Q E e S a w hc hr h hro;simp only[comp] at hc
  cases hx:comp P N c with
  | none=>rw[hx] at hc;cases hc
  | some x'=>
   rw[hx] at hc;cases hc;obtain ⟨I,k,⟨e0,hsub,h0⟩,hround⟩:=h
   let J:Nat→Act→World→Prop:=fun k a' w'=>∃E' e' S',Rel N n0 m0 E' e' S' a' w'∧Ext n0 E S w E' S' w'∧I k e' S'
   refine wpIn_loop (fun a' w'=>∃k,J k a' w') (fun a' w'=>leastOf fun k=>J k a' w') ⟨k,E,e0,S,hr.sub hsub,Ext.refl _ _ _ _,h0⟩ ?_;intro a1 w1 hI;obtain ⟨E1,e1,S1,r1,x1,i1⟩:=(leastOf_spec hI).1;refine wpIn_mono (ih x' _ E1 e1 S1 a1 w1 hx r1 (hround _ e1 S1 i1) (hro.imp (fun h=>h) fun h=>by simp[C'.noRf] at h;exact h)) fun ex a' w' hq=>?_
   obtain ⟨E',e',S',r,x,q⟩:=hq;cases ex
   case normal=>
    obtain ⟨k',hlt,e2,hs2,hi2⟩:=q;have hJ:J k' a' w':=⟨E',e2,S',r.sub hs2,x1.trans x,hi2⟩;exact ⟨⟨k',hJ⟩,Nat.lt_of_le_of_lt ((leastOf_spec ⟨k',hJ⟩).2 k' hJ) hlt⟩
   all_goals exact ⟨E',e',S',r,x1.trans x,q⟩
 | exit id=>
  intro c' Q E e S a w hc hr h hro;simp only[comp] at hc;cases hc;exact wpIn_exit ⟨E,e,S,hr,Ext.refl _ _ _ _,h⟩
 | ret=>
  intro c' Q E e S a w hc hr h hro;simp only[comp] at hc;cases hc;exact wpIn_ret ⟨E,e,S,hr,Ext.refl _ _ _ _,h⟩
 | rangeFunc f ps asg body iha ihb=>
  intro c' Q E e S a w hc hr h hro;simp only[comp] at hc;split at hc
  case h_2=>cases hc;exact h.elim
  rename_i g ca cb hg hca hcb;split at hc
  case isFalse=>cases hc;exact h.elim
  cases hc;rename_i hst;have hro':ro=none:=hro.resolve_right (by simp[C'.noRf]);subst hro';exact qoG hg (fun _=>h hca hcb) hr
 | _=>intro c' Q E e S a w hc hr h hro;simp only[comp,Option.some.injEq] at hc;subst hc;exact h.elim
inductive RV where
 | t (t:Nat)
 | cell (t:Nat) (k:Option Nat)
 deriving Inhabited
structure F' where
 N:Nat
 rs:List RV
 body:C'
 deriving Inhabited
def qfz(P:Program):ResultVar→Option RV
 | .tmp t=>some (.t t)
 | .cell a t=>(qa4 P t).map (.cell a)
def qeK(P:Program)(fn:Func):Option F':=
 match fn.body,fn.results.toList.mapM (qfz P) with
 | some c, some rs => if fn.name = "runtime.NumGoroutine" then none else (comp P fn.ntmps c).map fun c' => ⟨fn.ntmps, rs, c'⟩
 | _,_=>none
def rvs(e:Env)(S:St):List RV→Option (List V)
 | []=>some []
 | .t t::rs=>match e.get t,rvs e S rs with
  | some v,some vs=>some (v::vs)
  | _,_=>none
 | .cell t k::rs=>match e.get t,rvs e S rs with
  | some p,some vs=>(ldS S p k).map fun v=>v::vs
  | _,_=>none
def retV:List V→V
 | [v]=>v
 | vs=>.tup vs
def qa1(n:Nat)(r:V)(S:St)(r':V)(S':St):Prop:=
 ∀(E:En) (w:World) (u:Value),SR E S w→VR E r u→n≤S.length→∃E',VR E' r' u∧SR E' S' w∧Ext n E S w E' S' w∧n≤S'.length
theorem qa1.refl(n:Nat)(r:V)(S:St):qa1 n r S r S:=fun E w u hs hr hn=>⟨E,hr,hs,Ext.refl _ _ _ _,hn⟩
theorem qa1.trans{n:Nat}{r r1 r2:V}{S S1 S2:St}(h:qa1 n r S r1 S1)(g:qa1 n r1 S1 r2 S2):qa1 n r S r2 S2:=fun E w u hs hr hn=>by
 obtain ⟨E1,a1,a2,a3,a4⟩:=h E w u hs hr hn;obtain ⟨E2,b1,b2,b3,b4⟩:=g E1 w u a2 a1 a4;exact ⟨E2,b1,b2,a3.trans b3,b4⟩
theorem qa1.cut{n m:Nat}{r:V}{S:St}(hr:r.under m=true)(hS:∀o,o∈S.take m→o.under m=true)(hn:n≤m)(hm:m≤S.length):qa1 n r S r (S.take m):=fun E w u hs hv hn'=>by
 obtain ⟨h1,h2⟩:=hs.cut hS hm;exact ⟨E.cut m,hv.cut hr,h1,h2 n hn,by simp;omega⟩
theorem qa1.freeze{n l off len st sz wr:Nat}{S:St}{xs:List V}(ho:S[l]?=some (.arr xs sz wr))(hw:wr≤st)(hle:off+len≤st):qa1 n (.arr l off len st) S (.sl false ((xs.drop off).take len)) (S.set l .dead):=fun E w u hs hv hn=>by
 obtain ⟨E',h1,h2,_,h3⟩:=hs.freeze ho hw hv hle;exact ⟨E',h3,h1,h2 n,by simpa using hn⟩
def endp(rs:List RV)(n:Nat)(R:V→St→Prop):Post
 | .normal,e,S|.ret,e,S=>∃vs,rvs e S rs=some vs∧∃r' S',qa1 n (retV vs) S r' S'∧R r' S'
 | _,_,_=>False
def qbB:Nat→List V→Env
 | _,[]=>[]
 | k,v::vs=>(k,v)::qbB (k+1) vs
theorem qej:∀(vs:List V) (k t:Nat) (v:V),(qbB k vs).get t=some v→k≤t∧vs[t - k]?=some v
 | [],k,t,v,h=>by simp[qbB,Env.get] at h
 | x::vs,k,t,v,h=>by
  simp only[qbB,Env.get] at h;split at h
  ·rename_i hk;subst hk;cases h;simp
  ·obtain ⟨h1,h2⟩:=qej vs (k+1) t v h;refine ⟨by omega,?_⟩;obtain ⟨d,rfl⟩:∃d,t=k+1+d:=⟨t - (k+1),by omega⟩;rw[show k+1+d - (k+1)=d by omega] at h2;rw[show k+1+d - k=d+1 by omega,quM];exact h2
def rdRV(tmps:Array Value):ResultVar→Sem Value
 | .tmp t=>Pure.pure (tmps.getD t undef)
 | .cell a t=>do loadVar t (←asAddr (tmps.getD a undef))
theorem qnq{P:Program}{E:En}{e:Env}{S:St}{w:World}{tmps:Array Value}(ht:Tmps E e tmps)(hs:SR E S w):∀(l:List ResultVar) (rs:List RV) (vs:List V),l.mapM (qfz P)=some rs→rvs e S rs=some vs→
  ∃us:List Value,us.length=vs.length∧(∀(i:Nat) (v:V) (u:Value),vs[i]?=some v→us[i]?=some u→VR E v u)∧
   ∀acc:Array Value,(l.foldlM (fun (acc:Array Value) r=>do let b ←rdRV tmps r;Pure.pure (acc.push b)) acc:Sem (Array Value)).run P w=.ok (acc++us.toArray) w
 | [],rs,vs,h1,h2=>by
  simp at h1;subst h1;simp only[rvs] at h2;cases h2;exact ⟨[],rfl,fun i v u h=>by simp at h,fun acc=>by simp⟩
 | r::l,rs,vs,h1,h2=>by
  simp only[quN,quw] at h1
  cases hc:qfz P r with
  | none=>rw[hc] at h1;simp at h1
  | some r'=>
   rw[hc] at h1
   cases hl:l.mapM (qfz P) with
   | none=>rw[hl] at h1;simp at h1
   | some rs'=>
    rw[hl] at h1;simp at h1;subst h1
    have one:∃v vs' u,vs=v::vs'∧rvs e S rs'=some vs'∧VR E v u∧(rdRV tmps r).run P w=.ok u w:=by
     cases r with
     | tmp t=>
      simp only[qfz] at hc;cases hc;simp only[rvs] at h2;split at h2 <;> cases h2;rename_i v vs' hv hvs;obtain ⟨u,hu,hr⟩:=ht _ _ hv;exact ⟨v,vs',u,rfl,hvs,hr,by simp[rdRV,hu]⟩
     | cell a t=>
      simp only[qfz] at hc
      cases hk:qa4 P t with
      | none=>rw[hk] at hc;cases hc
      | some k=>
       rw[hk] at hc;cases hc;simp only[rvs] at h2;split at h2 <;> try cases h2
       rename_i p vs' hv hvs
       cases hd:ldS S p k with
       | none=>rw[hd] at h2;cases h2
       | some v=>
        rw[hd] at h2;cases h2;obtain ⟨u,hu,hr⟩:=ht _ _ hv;obtain ⟨d,h3,h4⟩:=qiL (P:=P) hs hr hk hd;refine ⟨v,vs',d,rfl,hvs,h4,?_⟩;have hg:tmps.getD a undef=u:=by simp[hu]
        simp only[rdRV,hg];cases hr <;> simp[ldS] at hd <;> simpa[Instr.loadAt,Instr.sureAddr,asAddr,Result.andThen] using h3
    obtain ⟨v,vs',u,rfl,hvs,hr,hrun⟩:=one;obtain ⟨us,i1,i2,i3⟩:=qnq ht hs l rs' vs' hl hvs;refine ⟨u::us,by simp[i1],fun i v' u' h h'=>?_,fun acc=>?_⟩
    ·cases i with
     | zero=>simp at h h';subst h;subst h';exact hr
     | succ i=>exact i2 i v' u' (by simpa using h) (by simpa using h')
    ·simp only[List.foldlM_cons,Sem.run_bind,hrun,Result.andThen,Sem.run_pure];rw[i3];simp
theorem qii{P:Program}{E:En}{e:Env}{S:St}{w:World}{tmps:Array Value}{fn:Func}{rs:List RV}{vs:List V}(ht:Tmps E e tmps)(hs:SR E S w)(hc:fn.results.toList.mapM (qfz P)=some rs)(h:rvs e S rs=some vs):
  ∃u,(results fn tmps).run P w=.ok u w∧VR E (retV vs) u:=by
 obtain ⟨us,i1,i2,i3⟩:=qnq (P:=P) ht hs fn.results.toList rs vs hc h
 have hm:(fn.results.mapM (rdRV tmps)).run P w=.ok us.toArray w:=by
  rw[Array.mapM_eq_foldlM_push,←Array.foldlM_toList,i3];simp
 refine ⟨if h:us.toArray.size=1 then us.toArray[0] else .tuple us.toArray,?_,?_⟩
 ·have hres:results fn tmps=(do let vs ←fn.results.mapM (rdRV tmps);Pure.pure (if h:vs.size=1 then vs[0] else .tuple vs)):=by
   unfold results;congr 1
  rw[hres];simp only[Sem.run_bind,hm,Result.andThen,Sem.run_pure]
 ·by_cases h1:us.length=1
  ·match us,vs,h1,i1 with
   | [u],[v],_,_=>simpa[retV] using i2 0 v u rfl rfl
  ·rw[dif_neg (by simpa using h1)]
   have:retV vs=.tup vs:=by
    match vs,i1 with
    | [],_=>rfl
    | [v],h=>simp at h;exact absurd h h1
    | _::_::_,_=>rfl
   rw[this];exact .tup (by simp[i1]) (fun i v u hv hu=>i2 i v u hv (by simpa using hu))
def Same(m:Nat)(w w':World):Prop:=w'.heap.size=w.heap.size∧(∀b,b<m→w'.heap[b]?=w.heap[b]?)∧(w'.output,w'.os)=(w.output,w.os)
theorem Ext.same{n:Nat}{E E':En}{S S':St}{w w' w'':World}(h:Ext n E S w E' S' w')(g:Same w.heap.size w' w''):Ext n E S w E' S' w'':=
 { h with size:=by rw[g.1];exact h.size,frame:=fun b hb hn=>(g.2.1 b hb).trans (h.frame b hb hn),out:=g.2.2.trans h.out }
theorem SR.shut{E:En}{S:St}{w:World}(h:SR E S w){r:Nat}{ds:Option (List Deferred)}{o:Obj}(hr:w.heap[r]?=some (.deferred ds))(hno:¬ own E S r):SR E S { w with heap:=w.heap.setIfInBounds r o }:=by
 have hlt:r<w.heap.size:=(qtS.1 hr).1
 have other:∀b,b≠r→({ w with heap:=w.heap.setIfInBounds r o }:World).heap[b]?=w.heap[b]?:=fun b hb=>by
  show (w.heap.setIfInBounds r o)[b]?=_;rw[qt5 (Ne.symm hb)]
 refine ⟨h.gl.old (fun _ _ _ h=>h) (fun b _ _ _ hb _=>other b fun he=>by subst he;rw[hr] at hb;cases hb),fun b o' c hc=>?_,fun l ob hl=>?_,h.dom,h.apart,fun b hb=>?_,h.inj⟩
 ·have h1:=h.I b o' c hc
  have hne:b≠r:=by
   rintro rfl;unfold World.cell? at h1;simp[hr] at h1
  rw[cell?_heap (other b hne)];exact h1
 ·by_cases hd:ob=.dead
  ·subst hd;trivial
  exact (h.obs l ob hl).mono (En.le_refl E) (fun _ _ hx=>hx) fun st x hx=>other _ fun he=>hno ⟨l,st,x,⟨ob,hl,hd⟩,hx,he⟩
 ·show b<(w.heap.setIfInBounds r o).size;simp;exact h.lt b hb
theorem qfX{P:Program}{n m:Nat}{fn:Func}{tmps:Array Value}{R:Ending→World→Prop}{E:En}{S:St}:∀{ds:List Deferred} {w:World},SR E S w→qdJ m E S w ds→
  (∀w',SR E S w'→Same m w w'→∃v,(results fn tmps).run P w'=.ok v w'∧R (.returned v) w')→LeavesInM Fence.wide n P fn tmps R ds .returning w
 | [],w,hs,_,h=>h w hs ⟨rfl,fun _ _=>rfl,rfl⟩
 | d::ds,w,hs,⟨⟨r,h1,h2,h3,h4,h5⟩,hd⟩,h=>by
  refine ⟨by simp,.inl ⟨r,_,h1,run_takeDeferred h3,?_⟩⟩;have hs':=hs.shut (o:=.deferred none) h3 h4;refine qfX (m:=m) hs' ?_ fun w' hs'' hsame=>h w' hs'' ?_
  ·have hne:∀b,b≠r→({ w with heap:=w.heap.setIfInBounds r (.deferred none) }:World).heap[b]?=w.heap[b]?:=fun b hb=>by
    show (w.heap.setIfInBounds r _)[b]?=_;rw[qt5 (Ne.symm hb)]
   have:∀(l:List Deferred),(∀d',d'∈l→d'.target≠.collected r)→qdJ m E S w l→qdJ m E S { w with heap:=w.heap.setIfInBounds r (.deferred none) } l:=by
    intro l
    induction l with
    | nil=>intro _ _;trivial
    | cons d' l ih=>
     rintro hne' ⟨⟨r',k1,k2,k3,k4,k5⟩,hl⟩;have hrr:r'≠r:=fun he=>hne' d' (by simp) (by rw[k1,he])
     exact ⟨⟨r',k1,k2,(hne r' hrr).trans k3,k4,k5⟩,ih (fun d'' hd''=>hne' d'' (by simp[hd''])) hl⟩
   exact this ds h5 hd
  ·refine ⟨hsame.1.trans (by simp),fun b hb=>(hsame.2.1 b hb).trans ?_,hsame.2.2⟩;show (w.heap.setIfInBounds r _)[b]?=_;rw[qt5 (by omega)]
theorem Spec.intro{P:Program}{f:FuncId}{fn:Func}{f':F'}{args:List V}{S:St}{R:V→St→Prop}(hf:P.funcs[f]?=some fn)(hc:qeK P fn=some f')(ha:args.length≤f'.N)
  (h:WP P f'.body (endp f'.rs S.length R) (qbB 0 args) S):Spec P f args S R:=by
 unfold qeK at hc;split at hc
 ·rename_i c rs hb hrs;split at hc
  ·cases hc
  ·rename_i hname
   cases hx:comp P fn.ntmps c with
   | none=>rw[hx] at hc;cases hc
   | some c'=>
    rw[hx] at hc;cases hc;refine ⟨fun as w=>?_,fun E w us n hs hv=>?_⟩
    ·simp[callFunc,program,Sem.run,Result.andThen,hf,hname,hb]
    ·refine callsIn_of_wp_marks hf hb trivial ?_;simp only at ha h;obtain ⟨v1,v2⟩:=hv
     have hrel:Rel fn.ntmps S.length w.heap.size E (qbB 0 args) S { tmps:=us++Array.replicate (fn.ntmps - us.size) undef,defers:=[] } w:=by
      refine ⟨fun t v ht=>?_,by simp;omega,⟨qtH _,trivial⟩,qtH _,hs⟩;obtain ⟨_,h2⟩:=qej args 0 t v ht;simp only[Nat.sub_zero] at h2;have hlt:=(qtB.1 h2).1;have hu:us[t]?=some (us[t]'(by omega)):=by simp
      exact ⟨_,by rw[quy (by omega)];exact hu,v2 t v _ h2 hu⟩
     have hwp:=qgU (ro:=none) (n:=n) c c' _ E _ S _ w hx hrel h (.inl rfl);refine wpIn_mono (show c.wpIn Fence.wide n P _ _ w from hwp) ?_;rintro ex a' w' ⟨E',e',S',r,x,q⟩;cases ex <;> simp only[endp] at q
     all_goals
      obtain ⟨vs,h1,r',S2,hg,hR⟩:=q
      refine qfX r.sr r.defers.2 fun w'' hs'' hsame=>?_
      obtain ⟨u,h3,h4⟩:=qii (P:=P) r.tmps hs'' hrs h1
      obtain ⟨E2,g1,g2,g3,g4⟩:=hg E' w'' u hs'' h4 r.base
      exact ⟨u,h3,u,r',E2,S2,rfl,hR,g1,g2,(x.same hsame).trans g3,g4⟩
 ·cases hc
def qc7:List Nat→List V→Env→Env
 | p::ps,v::vs,e=>qc7 ps vs (e.put (some p) v)
 | _,_,e=>e
theorem qgk{E:En}:∀(ps:List Nat) (vs:List V) (us:List Value) (e:Env) (T:Array Value),Tmps E e T→(∀p,p∈ps→p<T.size)→vs.length=us.length→(∀(i:Nat) (v:V) (u:Value),vs[i]?=some v→us[i]?=some u→VR E v u)→
  Tmps E (qc7 ps vs e) ((ps.zip us).foldl (fun T p=>T.setIfInBounds p.1 p.2) T)∧((ps.zip us).foldl (fun T p=>T.setIfInBounds p.1 p.2) T).size=T.size
 | [],vs,us,e,T,h,_,_,_=>by cases vs <;> exact ⟨h,rfl⟩
 | p::ps,[],us,e,T,h,_,hl,_=>by
  have:us=[]:=qt6 (by simpa using hl.symm);subst this;exact ⟨h,rfl⟩
 | p::ps,v::vs,[],e,T,h,_,hl,_=>by simp at hl
 | p::ps,v::vs,u::us,e,T,h,hp,hl,hv=>by
  have:=qgk ps vs us (e.put (some p) v) (T.setIfInBounds p u) (h.put (hp p (by simp)) (hv 0 v u rfl rfl)) (fun q hq=>by simp;exact hp q (by simp[hq])) (by simpa using hl) (fun i v' u' h1 h2=>hv (i+1) v' u' (by simpa using h1) (by simpa using h2));simp only[List.zip_cons_cons,List.foldl_cons,qc7];exact ⟨this.1,by rw[this.2];simp⟩
def qf5(l:Nat)(R:V→St→Prop):Post
 | .normal,_,S=>∃i,S[l]?=some (.loop i)∧R (.bool true) (S.set l (.loop { i with st:=.ready,pend:=none }))
 | .ret,_,S=>∃i,S[l]?=some (.loop i)∧R (.bool false) (S.set l (.loop { i with st:=.done,pend:=some .ret }))
 | .exit id,_,S=>∃i,S[l]?=some (.loop i)∧R (.bool false) (S.set l (.loop { i with st:=.done,pend:=some (.exit id) }))
 | _,_,_=>False
def qiG(P:Program)(l:Nat)(cb:C')(R:V→St→Prop):Post
 | .normal,e,S=>∃i,S[l]?=some (.loop i)∧i.st=.ready∧WP P cb (qf5 l R) e (S.set l (.loop { i with st:=.busy }))
 | _,_,_=>False
theorem qbS.intro{P:Program}{l:Nat}{args:List V}{S:St}{R:V→St→Prop}{i:LI}{ca cb:C'}(hl:S[l]?=some (.loop i))(hca:comp P i.N i.asg=some ca)(hcb:comp P i.N i.body=some cb)(hst:i.st=.ready)
  (na:ca.noRf=true) (nb:cb.noRf=true) (hlen:args.length=i.ps.length) (hps:i.ps.all (fun p=>decide (p<i.N))=true)
  (h:WP P ca (qiG P l cb R) (qc7 i.ps args i.e) S):qbS P l args S R:=by
 intro E w us n x hs hv hx;obtain ⟨x',rc,r1,r2,r3,r4,r5,r6,r7,r8,r9⟩:=hs.obs _ _ hl;rw[hx] at r1;cases r1;obtain ⟨v1,v2⟩:=hv;refine ⟨rc.fn,_,rc.assign,rc.body,run_yield r2 (by rw[←v1,hlen,←r5];simp),?_⟩;simp only[qtY,decide_eq_true_eq] at hps;obtain ⟨t1,t2⟩:=qgk i.ps args us.toList i.e rc.tmps r9 (fun p hp=>by rw[r8];exact hps p hp) (by simpa using v1) (fun j v u h1 h2=>v2 j v u h1 (by simpa using h2))
 have hT:(rc.params.zip us).foldl (fun tmps (t,a)=>tmps.setIfInBounds t a) rc.tmps=(i.ps.zip us.toList).foldl (fun T p=>T.setIfInBounds p.1 p.2) rc.tmps:=by
  rw[←Array.foldl_toList,Array.toList_zip,r5]
 rw[hT];generalize (i.ps.zip us.toList).foldl (fun T p=>T.setIfInBounds p.1 p.2) rc.tmps=T at t1 t2;rw[r6,r7];have hrel:Rel i.N S.length w.heap.size E (qc7 i.ps args i.e) S { tmps:=T,defers:=[] } w:=⟨t1,by rw[t2,r8],⟨qtH _,trivial⟩,qtH _,hs⟩;have hwp:=qgU (ro:=some x.b) (n:=n) i.asg ca _ E _ S _ w hca hrel h (.inr na);refine roundIn_of_wpIn trivial (wpIn_mono (show i.asg.wpIn (Fence.wide.inRound x.b) n P _ _ w from hwp) ?_);rintro ex a' w' ⟨E',e',S',r,xt,q⟩;cases ex <;> simp only[qiG] at q;obtain ⟨i',hi',hst',hb⟩:=q;obtain ⟨x',rc',q1,q2,q3,q4,q5,q6,q7,q8,q9⟩:=r.sr.obs _ _ hi';have hlt:l<S.length:=(qtB.1 hl).1;have hx':=xt.ρ l 0 _ hlt hx;rw[hx'] at q1;cases q1;refine ⟨_,run_beginRound q2 (by rw[q3];exact hst'),?_⟩;obtain ⟨s1,s2⟩:=r.sr.loopSet (i':={ i' with st:=.busy }) (r':={ rc' with state:=.busy }) hi' hx' q2 rfl q4 q5 q6 q7 q8 q9;have hrel':Rel i.N S.length w.heap.size E' e' (S'.set l (.loop { i' with st:=.busy })) a' (w'.putObj x.b (.loop { rc' with state:=.busy })):=
  ⟨r.tmps,r.size,qeo.step s2 r.defers,by simp;exact r.base,s1⟩
 have hext:Ext S.length E S w E' (S'.set l (.loop { i' with st:=.busy })) (w'.putObj x.b (.loop { rc' with state:=.busy })):=xt.trans (s2.less r.base);have hwp2:=qgU (ro:=some x.b) (n:=n) i.body cb _ E' _ _ _ _ hcb hrel' hb (.inr nb);refine wpIn_mono (show i.body.wpIn (Fence.wide.inRound x.b) n P _ _ _ from hwp2) ?_;rintro ex a2 w2 ⟨E2,e2,S2,r2',xt2,q2'⟩;have hxx:=hext.trans xt2;have hx2:=hxx.ρ l 0 _ hlt hx;have fin:∀(j:Option Code) (i2:LI),S2[l]?=some (.loop i2)→R (.bool j.isNone) (S2.set l (.loop { i2 with st:=if j.isNone then .ready else .done,pend:=j }))→
   ∃v w',(Instr.endRound x.b j).run P w2=.ok v w'∧∃u r E' S',(Ending.returned v)=.returned u∧R r S'∧VR E' r u∧SR E' S' w'∧Ext S.length E S w E' S' w'∧S.length≤S'.length:=by
  intro j i2 hi2 hR;obtain ⟨x',rc2,p1,p2,p3,p4,p5,p6,p7,p8,p9⟩:=r2'.sr.obs _ _ hi2;rw[hx2] at p1;cases p1;obtain ⟨s1,s2⟩:=r2'.sr.loopSet (i':={ i2 with st:=if j.isNone then .ready else .done,pend:=j }) (r':={ rc2 with state:=if j.isNone then .ready else .done,pending:=j }) hi2 hx2 p2 rfl rfl p5 p6 p7 p8 p9;exact ⟨_,_,run_endRound j p2,_,_,E2,_,rfl,hR,.bool _,s1,hxx.trans (s2.less r2'.base),by simp;exact r2'.base⟩
 cases ex <;> simp only[qf5] at q2'
 ·obtain ⟨i2,hi2,hR⟩:=q2';exact fin none i2 hi2 hR
 ·obtain ⟨i2,hi2,hR⟩:=q2';exact fin (some (.exit _)) i2 hi2 hR
 ·obtain ⟨i2,hi2,hR⟩:=q2';exact fin (some .ret) i2 hi2 hR
def rfs:Code→List (Code×Code)
 | .rangeFunc _ _ a b=>[(a,b)]
 | .seq a b|.cond _ a b=>rfs a++rfs b
 | .block _ c|.loop c|.scope c=>rfs c
 | _=>[]
def rfAt(f:Func)(k:Nat):Code×Code:=match f.body with
 | some c=>((rfs c)[k]?).getD (.skip,.skip)
 | none=>(.skip,.skip)
mutual
def V.frz(l:Nat)(xs:List V)(wr:Nat):V→V
 | .arr l' off len st=>if l'=l∧wr≤st∧off+len≤st then .sl false ((xs.drop off).take len) else .arr l' off len st
 | .sl x ys=>.sl x (V.frzL l xs wr ys)
 | .iface t v=>.iface t (V.frz l xs wr v)
 | .agg cs=>.agg (V.frzL l xs wr cs)
 | .tup cs=>.tup (V.frzL l xs wr cs)
 | v=>v
def V.frzL(l:Nat)(xs:List V)(wr:Nat):List V→List V
 | []=>[]
 | v::vs=>V.frz l xs wr v::V.frzL l xs wr vs
end
theorem qcf{l wr:Nat}{xs:List V}:∀(vs:List V),V.frzL l xs wr vs=vs.map (V.frz l xs wr)
 | []=>rfl
 | v::vs=>by simp only[V.frzL,qtW,qcf vs]
theorem qhS{l wr:Nat}{xs:List V}(v:V):(v.frz l xs wr).cells=v.cells.map (V.frz l xs wr):=by
 cases v
 case arr l' off len st=>
  show (V.frz l xs wr (.arr l' off len st)).cells=[V.frz l xs wr (.arr l' off len st)];simp only[V.frz];by_cases hc:l'=l∧wr≤st∧off+len≤st
  ·rw[if_pos hc];rfl
  ·rw[if_neg hc];rfl
 all_goals simp only[V.frz,V.cells,qtW,quG,qcf]
theorem SR.freezeV{E:En}{S:St}{w:World}(h:SR E S w){l sz wr:Nat}{xs:List V}(ho:S[l]?=some (.arr xs sz wr)):
  ∃E',SR E' (S.set l .dead) w∧(∀n,Ext n E S w E' (S.set l .dead) w)∧∀v u,VR E v u→VR E' (v.frz l xs wr) u:=by
 obtain ⟨h0,h1,h2⟩:=h.obs l _ ho;have hlive:live S l:=⟨_,ho,by simp⟩
 open Classical in
 let mine:Nat→Prop:=fun b=>∃st x,E.ρ l st=some x∧x.b=b
 open Classical in
 let E':En:={ E with I:=fun b o=>if mine b then w.cell? ⟨b,o,none⟩ else E.I b o }
 have hmo:∀b,mine b→own E S b:=fun b ⟨st,x,hx,hb⟩=>⟨l,st,x,hlive,hx,hb⟩
 have hle':E.le E':=⟨fun b o c hc=>by
  simp only[E'];split
  ·rename_i hm;rw[h.apart b o (hmo b hm)] at hc;cases hc
  ·exact hc,fun _ _ _ h=>h⟩
 have hρ:E'.ρ=E.ρ:=rfl
 have hnot:∀b,own E' (S.set l .dead) b→own E S b∧¬ mine b:=by
  rintro b ⟨l',st,x,hl',hx,rfl⟩;rw[hρ] at hx
  have hne:l'≠l:=by
   rintro rfl;obtain ⟨o,ho',hd⟩:=hl';rw[qtE (qeM hlive)] at ho';cases ho';exact hd rfl
  have hlv:live S l':=qce hl' hlive;refine ⟨⟨l',st,x,hlv,hx,rfl⟩,?_⟩;rintro ⟨st',y,hy,he⟩;exact hne (h.inj l' l st st' x y hlv hlive hx hy he.symm)
 refine ⟨E',⟨h.gl.old hle'.1 (fun _ _ _ _ _ _=>rfl),?_,?_,?_,?_,?_,?_⟩,fun n=>⟨qtH _,hle'.1,fun l st x _ hx=>hx,fun _ _ hx=>hx,fun b hb=>.inl (hnot b hb).1,?_,fun _ _ _=>rfl,rfl⟩,?_⟩
 ·intro b o c hc;simp only[E'] at hc;split at hc
  ·exact hc
  ·exact h.I b o c hc
 ·intro l' o' hl';by_cases hk:l'=l
  ·subst hk;rw[qtE (qeM hlive)] at hl';cases hl';trivial
  ·rw[qtG (Ne.symm hk)] at hl';exact (h.obs l' o' hl').mono hle' (fun _ _ hx=>hx) (fun _ _ _=>rfl)
 ·intro l' st' x' hx';simpa using h.dom l' st' x' hx'
 ·intro b o hb;obtain ⟨hb1,hb2⟩:=hnot b hb;simp only[E'];rw[if_neg hb2];exact h.apart b o hb1
 ·intro b hb;exact h.lt b (hnot b hb).1
 ·intro l1 l2 st1 st2 x1 x2 hl1 hl2 hx1 hx2 he;exact h.inj l1 l2 st1 st2 x1 x2 (qce hl1 hlive) (qce hl2 hlive) hx1 hx2 he
 ·intro b o c hc;simp only[E'] at hc;split at hc
  ·rename_i hm;exact .inr (.inl (hmo b hm))
  ·exact .inl hc
 ·intro v u hv
  induction hv with
  | top u=>exact .top u
  | bool b=>exact .bool b
  | int k n=>exact .int k n
  | str s=>exact .str s
  | nilp=>exact .nilp
  | ptr i off hr=>exact VR.ptr (E:=E') i off hr
  | iptr off hI hv _=>exact (VR.iptr off hI hv).mono hle'
  | glob g off=>exact .glob g off
  | slnil x=>exact .slnil x
  | slz x a=>exact .slz x a
  | sl hc hx hs hI hv ih=>
   rename_i x ys b o cap sz';simp only[V.frz,qcf];have hlen:(ys.map (V.frz l xs wr)).length=ys.length:=by simp
   have hcl:∀v:V,(v.frz l xs wr).cells.length=v.cells.length:=fun v=>by rw[qhS];simp
   have:=VR.sl (E:=E') (x:=x) (xs:=ys.map (V.frz l xs wr)) (b:=b) (o:=o) (cap:=cap) (sz:=sz') (by rw[hlen];exact hc) (fun he=>by rw[hlen];exact hx he)
    (fun v hv=>by
     rw[qt3] at hv;obtain ⟨v0,hv0,rfl⟩:=hv;rw[hcl];exact hs v0 hv0)
    (fun i j hi hj=>qdU hle' (hI i j (by rw[←hlen];exact hi) hj))
    (fun i v j c' c hv hcc hi=>by
     rw[qtV,qtK] at hv;obtain ⟨v0,hv0,rfl⟩:=hv;rw[qhS,qtV,qtK] at hcc;obtain ⟨c0,hc0,rfl⟩:=hcc;have h1:=(qtB.1 hv0).1;have h2:=(qtB.1 hc0).1;rw[hs v0 (qtP hv0)] at h2;exact ih i v0 j c0 c hv0 hc0 (qlI hle' (hI i j h1 h2) hi))
   rw[hlen] at this;exact this
  | arr hr hN hc=>
   rename_i l' off len cap st x;simp only[V.frz];split
   ·rename_i hk;obtain ⟨rfl,hwr,hle⟩:=hk;obtain ⟨g1,g2,C,t,g3,g4,g5,g6⟩:=h2 st x hr hwr;have hm:mine x.b:=⟨st,x,hr,rfl⟩;have hlen:((xs.drop off).take len).length=len:=by simp;omega
    have hget:∀(i:Nat) (v:V),((xs.drop off).take len)[i]?=some v→xs[off+i]?=some v∧i<len:=fun i v hv=>by
     have hi:=(qtB.1 hv).1;rw[hlen] at hi;rw[qt9 hi,qun] at hv;exact ⟨hv,hi⟩
    have hmem:∀v,v∈(xs.drop off).take len→v.cells.length=x.sz:=fun v hv=>by rw[g2];exact h1 v (List.mem_of_mem_drop (List.mem_of_mem_take hv))
    have hcell:∀(i j:Nat) (v c':V),xs[off+i]?=some v→off+i<st→v.cells[j]?=some c'→∃c,E'.I x.b (off * x.sz+i * x.sz+j)=some c∧VR E c' c:=by
     intro i j v c' hv hi hc';obtain ⟨c,hc1,hc2⟩:=g6 (off+i) v hv hi j c' hc';refine ⟨c,?_,hc2⟩;simp only[E'];rw[if_pos hm,cell?_of g3,show off * x.sz+i * x.sz+j=(off+i) * x.sz+j by rw[quq]];exact hc1
    have:=VR.sl (E:=E') (x:=false) (xs:=(xs.drop off).take len) (b:=x.b) (o:=off * x.sz) (cap:=cap) (sz:=x.sz) (by rw[hlen];exact hc) (fun h=>by cases h) hmem
     (fun i j hi hj=>by
      rw[hlen] at hi;have hx:xs[off+i]?=some (xs[off+i]'(by omega)):=by simp
      have hcl:(xs[off+i]'(by omega)).cells.length=x.sz:=by rw[g2];exact h1 _ (qtM _)
      obtain ⟨c,hc1,_⟩:=hcell i j _ ((xs[off+i]'(by omega)).cells[j]'(by omega)) hx (by omega) (by simp);rw[hc1];rfl)
     (fun i v j c' c hv hcc hi=>by
      obtain ⟨hv',hi'⟩:=hget i v hv;obtain ⟨d,hd1,hd2⟩:=hcell i j v c' hv' (by omega) hcc;rw[hd1] at hi;cases hi;exact hd2.mono hle')
    rw[hlen] at this;exact this
   ·exact VR.arr (E:=E') hr hN hc
  | nilmap=>exact .nilmap
  | map hr=>exact VR.map (E:=E') hr
  | fn h1 h2 g1 g2 _ _=>exact (VR.fn h1 h2 g1 g2).mono hle'
  | nilfn=>exact .nilfn
  | iface t _ ih=>exact .iface t ih
  | niliface=>exact .niliface
  | yld hr=>exact VR.yld (E:=E') hr
  | agg hl g ih=>
   simp only[V.frz,qcf];refine .agg (by simpa using hl) fun i v u hv hu=>?_
   rw[qtV,qtK] at hv;obtain ⟨v0,hv0,rfl⟩:=hv;exact ih i v0 u hv0 hu
  | tup hl g ih=>
   simp only[V.frz,qcf];refine .tup (by simpa using hl) fun i v u hv hu=>?_
   rw[qtV,qtK] at hv;obtain ⟨v0,hv0,rfl⟩:=hv;exact ih i v0 u hv0 hu
theorem qa1.freezeV{n l sz wr:Nat}{r:V}{S:St}{xs:List V}(ho:S[l]?=some (.arr xs sz wr)):qa1 n r S (r.frz l xs wr) (S.set l .dead):=fun E w u hs hv hn=>by
 obtain ⟨E',h1,h2,h3⟩:=hs.freezeV ho;exact ⟨E',h3 _ _ hv,h1,h2 n,by simpa using hn⟩
def V.arrs:Nat→V→List Nat
 | 0,_=>[]
 | n+1,v=>match v with
  | .arr l _ _ _=>[l]
  | .sl _ ys=>ys.flatMap (V.arrs n)
  | .iface _ v=>V.arrs n v
  | .agg cs=>cs.flatMap (V.arrs n)
  | .tup cs=>cs.flatMap (V.arrs n)
  | _=>[]
mutual
def V.same:V→V→Bool
 | .bool a,.bool b=>a==b
 | .int k a,.int k' b=>k==k' && a==b
 | .str a,.str b=>a.data.toList==b.data.toList
 | .nilp,.nilp=>true
 | .ptr a b c d,.ptr a' b' c' d'=>a==a' && b==b' && c==c' && d==d'
 | .glob a b,.glob a' b'=>a==a' && b==b'
 | .sl x xs,.sl y ys=>x==y && V.sames xs ys
 | .arr a b c d,.arr a' b' c' d'=>a==a' && b==b' && c==c' && d==d'
 | .nilmap,.nilmap=>true
 | .map l,.map l'=>l==l'
 | .nilfn,.nilfn=>true
 | .niliface,.niliface=>true
 | .iptr v o,.iptr v' o'=>V.same v v' && o==o'
 | .agg xs,.agg ys=>V.sames xs ys
 | .tup xs,.tup ys=>V.sames xs ys
 | _,_=>false
def V.sames:List V→List V→Bool
 | [],[]=>true
 | x::xs,y::ys=>V.same x y && V.sames xs ys
 | _,_=>false
end
theorem qgO{a b:ByteArray}(h:(a.data.toList==b.data.toList)=true):a=b:=by
 obtain ⟨x⟩:=a;obtain ⟨y⟩:=b;simp at h;rw[h]
mutual
theorem qdn:∀(a b:V),V.same a b=true→a=b
 | .bool a,.bool b,h=>by simp only[V.same,beq_iff_eq] at h;rw[h]
 | .int k a,.int k' b,h=>by simp only[V.same,qtJ,beq_iff_eq] at h;rw[h.1,h.2]
 | .str a,.str b,h=>by simp only[V.same] at h;rw[qgO h]
 | .nilp,.nilp,_=>rfl
 | .glob a b,.glob a' b',h=>by simp only[V.same,qtJ,beq_iff_eq] at h;obtain ⟨rfl,rfl⟩:=h;rfl
 | .ptr a b c d,.ptr a' b' c' d',h=>by simp only[V.same,qtJ,beq_iff_eq] at h;obtain ⟨⟨⟨rfl,rfl⟩,rfl⟩,rfl⟩:=h;rfl
 | .sl x xs,.sl y ys,h=>by simp only[V.same,qtJ,beq_iff_eq] at h;rw[h.1,qcN xs ys h.2]
 | .arr a b c d,.arr a' b' c' d',h=>by simp only[V.same,qtJ,beq_iff_eq] at h;obtain ⟨⟨⟨rfl,rfl⟩,rfl⟩,rfl⟩:=h;rfl
 | .nilmap,.nilmap,_=>rfl
 | .map l,.map l',h=>by simp only[V.same,beq_iff_eq] at h;rw[h]
 | .nilfn,.nilfn,_=>rfl
 | .niliface,.niliface,_=>rfl
 | .iptr v o,.iptr v' o',h=>by simp only[V.same,qtJ,beq_iff_eq] at h;rw[qdn v v' h.1,h.2]
 | .agg xs,.agg ys,h=>by simp only[V.same] at h;rw[qcN xs ys h]
 | .tup xs,.tup ys,h=>by simp only[V.same] at h;rw[qcN xs ys h]
 | .top,b,h=>by cases b <;> simp[V.same] at h
 | .fn _ _ _,b,h=>by cases b <;> simp[V.same] at h
 | .iface _ _,b,h=>by cases b <;> simp[V.same] at h
 | .yld _,b,h=>by cases b <;> simp[V.same] at h
 | .glob ..,.top,h|.glob ..,.bool _,h|.glob ..,.int _ _,h|.glob ..,.str _,h|.glob ..,.nilp,h|.glob ..,.ptr ..,h|.glob ..,.iptr ..,h|.glob ..,.sl ..,h|.glob ..,.arr ..,h|.glob ..,.nilmap,h|.glob ..,.map _,h|.glob ..,.fn ..,h|.glob ..,.nilfn,h|.glob ..,.iface ..,h|.glob ..,.niliface,h|.glob ..,.yld _,h|.glob ..,.agg _,h|.glob ..,.tup _,h=>by simp[V.same] at h
 | .bool _,.top,h|.bool _,.int _ _,h|.bool _,.str _,h|.bool _,.nilp,h|.bool _,.ptr ..,h|.bool _,.iptr ..,h|.bool _,.sl ..,h|.bool _,.arr ..,h|.bool _,.nilmap,h|.bool _,.map _,h|.bool _,.fn ..,h|.bool _,.nilfn,h|.bool _,.iface ..,h|.bool _,.niliface,h|.bool _,.yld _,h|.bool _,.agg _,h|.bool _,.tup _,h|.bool _,.glob ..,h=>by simp[V.same] at h
 | .int _ _,.top,h|.int _ _,.bool _,h|.int _ _,.str _,h|.int _ _,.nilp,h|.int _ _,.ptr ..,h|.int _ _,.iptr ..,h|.int _ _,.sl ..,h|.int _ _,.arr ..,h|.int _ _,.nilmap,h|.int _ _,.map _,h|.int _ _,.fn ..,h|.int _ _,.nilfn,h|.int _ _,.iface ..,h|.int _ _,.niliface,h|.int _ _,.yld _,h|.int _ _,.agg _,h|.int _ _,.tup _,h|.int _ _,.glob ..,h=>by simp[V.same] at h
 | .str _,.top,h|.str _,.bool _,h|.str _,.int _ _,h|.str _,.nilp,h|.str _,.ptr ..,h|.str _,.iptr ..,h|.str _,.sl ..,h|.str _,.arr ..,h|.str _,.nilmap,h|.str _,.map _,h|.str _,.fn ..,h|.str _,.nilfn,h|.str _,.iface ..,h|.str _,.niliface,h|.str _,.yld _,h|.str _,.agg _,h|.str _,.tup _,h|.str _,.glob ..,h=>by simp[V.same] at h
 | .nilp,.top,h|.nilp,.bool _,h|.nilp,.int _ _,h|.nilp,.str _,h|.nilp,.ptr ..,h|.nilp,.iptr ..,h|.nilp,.sl ..,h|.nilp,.arr ..,h|.nilp,.nilmap,h|.nilp,.map _,h|.nilp,.fn ..,h|.nilp,.nilfn,h|.nilp,.iface ..,h|.nilp,.niliface,h|.nilp,.yld _,h|.nilp,.agg _,h|.nilp,.tup _,h|.nilp,.glob ..,h=>by simp[V.same] at h
 | .ptr ..,.top,h|.ptr ..,.bool _,h|.ptr ..,.int _ _,h|.ptr ..,.str _,h|.ptr ..,.nilp,h|.ptr ..,.iptr ..,h|.ptr ..,.sl ..,h|.ptr ..,.arr ..,h|.ptr ..,.nilmap,h|.ptr ..,.map _,h|.ptr ..,.fn ..,h|.ptr ..,.nilfn,h|.ptr ..,.iface ..,h|.ptr ..,.niliface,h|.ptr ..,.yld _,h|.ptr ..,.agg _,h|.ptr ..,.tup _,h|.ptr ..,.glob ..,h=>by simp[V.same] at h
 | .sl ..,.top,h|.sl ..,.bool _,h|.sl ..,.int _ _,h|.sl ..,.str _,h|.sl ..,.nilp,h|.sl ..,.ptr ..,h|.sl ..,.iptr ..,h|.sl ..,.arr ..,h|.sl ..,.nilmap,h|.sl ..,.map _,h|.sl ..,.fn ..,h|.sl ..,.nilfn,h|.sl ..,.iface ..,h|.sl ..,.niliface,h|.sl ..,.yld _,h|.sl ..,.agg _,h|.sl ..,.tup _,h|.sl ..,.glob ..,h=>by simp[V.same] at h
 | .arr ..,.top,h|.arr ..,.bool _,h|.arr ..,.int _ _,h|.arr ..,.str _,h|.arr ..,.nilp,h|.arr ..,.ptr ..,h|.arr ..,.iptr ..,h|.arr ..,.sl ..,h|.arr ..,.nilmap,h|.arr ..,.map _,h|.arr ..,.fn ..,h|.arr ..,.nilfn,h|.arr ..,.iface ..,h|.arr ..,.niliface,h|.arr ..,.yld _,h|.arr ..,.agg _,h|.arr ..,.tup _,h|.arr ..,.glob ..,h=>by simp[V.same] at h
 | .nilmap,.top,h|.nilmap,.bool _,h|.nilmap,.int _ _,h|.nilmap,.str _,h|.nilmap,.nilp,h|.nilmap,.ptr ..,h|.nilmap,.iptr ..,h|.nilmap,.sl ..,h|.nilmap,.arr ..,h|.nilmap,.map _,h|.nilmap,.fn ..,h|.nilmap,.nilfn,h|.nilmap,.iface ..,h|.nilmap,.niliface,h|.nilmap,.yld _,h|.nilmap,.agg _,h|.nilmap,.tup _,h|.nilmap,.glob ..,h=>by simp[V.same] at h
 | .map _,.top,h|.map _,.bool _,h|.map _,.int _ _,h|.map _,.str _,h|.map _,.nilp,h|.map _,.ptr ..,h|.map _,.iptr ..,h|.map _,.sl ..,h|.map _,.arr ..,h|.map _,.nilmap,h|.map _,.fn ..,h|.map _,.nilfn,h|.map _,.iface ..,h|.map _,.niliface,h|.map _,.yld _,h|.map _,.agg _,h|.map _,.tup _,h|.map _,.glob ..,h=>by simp[V.same] at h
 | .nilfn,.top,h|.nilfn,.bool _,h|.nilfn,.int _ _,h|.nilfn,.str _,h|.nilfn,.nilp,h|.nilfn,.ptr ..,h|.nilfn,.iptr ..,h|.nilfn,.sl ..,h|.nilfn,.arr ..,h|.nilfn,.nilmap,h|.nilfn,.map _,h|.nilfn,.fn ..,h|.nilfn,.iface ..,h|.nilfn,.niliface,h|.nilfn,.yld _,h|.nilfn,.agg _,h|.nilfn,.tup _,h|.nilfn,.glob ..,h=>by simp[V.same] at h
 | .niliface,.top,h|.niliface,.bool _,h|.niliface,.int _ _,h|.niliface,.str _,h|.niliface,.nilp,h|.niliface,.ptr ..,h|.niliface,.iptr ..,h|.niliface,.sl ..,h|.niliface,.arr ..,h|.niliface,.nilmap,h|.niliface,.map _,h|.niliface,.fn ..,h|.niliface,.nilfn,h|.niliface,.iface ..,h|.niliface,.yld _,h|.niliface,.agg _,h|.niliface,.tup _,h|.niliface,.glob ..,h=>by simp[V.same] at h
 | .iptr ..,.top,h|.iptr ..,.bool _,h|.iptr ..,.int _ _,h|.iptr ..,.str _,h|.iptr ..,.nilp,h|.iptr ..,.ptr ..,h|.iptr ..,.sl ..,h|.iptr ..,.arr ..,h|.iptr ..,.nilmap,h|.iptr ..,.map _,h|.iptr ..,.fn ..,h|.iptr ..,.nilfn,h|.iptr ..,.iface ..,h|.iptr ..,.niliface,h|.iptr ..,.yld _,h|.iptr ..,.agg _,h|.iptr ..,.tup _,h|.iptr ..,.glob ..,h=>by simp[V.same] at h
 | .agg _,.top,h|.agg _,.bool _,h|.agg _,.int _ _,h|.agg _,.str _,h|.agg _,.nilp,h|.agg _,.ptr ..,h|.agg _,.iptr ..,h|.agg _,.sl ..,h|.agg _,.arr ..,h|.agg _,.nilmap,h|.agg _,.map _,h|.agg _,.fn ..,h|.agg _,.nilfn,h|.agg _,.iface ..,h|.agg _,.niliface,h|.agg _,.yld _,h|.agg _,.tup _,h|.agg _,.glob ..,h=>by simp[V.same] at h
 | .tup _,.top,h|.tup _,.bool _,h|.tup _,.int _ _,h|.tup _,.str _,h|.tup _,.nilp,h|.tup _,.ptr ..,h|.tup _,.iptr ..,h|.tup _,.sl ..,h|.tup _,.arr ..,h|.tup _,.nilmap,h|.tup _,.map _,h|.tup _,.fn ..,h|.tup _,.nilfn,h|.tup _,.iface ..,h|.tup _,.niliface,h|.tup _,.yld _,h|.tup _,.agg _,h|.tup _,.glob ..,h=>by simp[V.same] at h
theorem qcN:∀(a b:List V),V.sames a b=true→a=b
 | [],[],_=>rfl
 | x::xs,y::ys,h=>by simp only[V.sames,qtJ] at h;rw[qdn x y h.1,qcN xs ys h.2]
 | [],_::_,h=>by simp[V.sames] at h
 | _::_,[],h=>by simp[V.sames] at h
end
def nthR{α:Type}(l:List α):Nat→Option α:=List.rec (motive:=fun _=>Nat→Option α) (fun _=>none) (fun x _ ih n=>Nat.rec (some x) (fun m _=>ih m) n) l
theorem qdO{α:Type}:∀(l:List α) (n:Nat),nthR l n=l[n]?
 | [],n=>by simp[nthR]
 | x::xs,0=>rfl
 | x::xs,n+1=>by rw[quM,←qdO xs n];rfl
def lenR{α:Type}(l:List α):Nat:=List.rec (motive:=fun _=>Nat→Nat) (fun n=>n) (fun _ _ ih n=>ih (Nat.succ n)) l 0
theorem qlP{α:Type}:∀(l:List α) (n:Nat),(List.rec (motive:=fun _=>Nat→Nat) (fun n=>n) (fun _ _ ih n=>ih (Nat.succ n)) l n:Nat)=l.length+n
 | [],n=>by simp
 | x::xs,n=>by
  show (List.rec (motive:=fun _=>Nat→Nat) (fun n=>n) (fun _ _ ih n=>ih (Nat.succ n)) xs (Nat.succ n):Nat)=_;rw[qlP xs];simp;omega
theorem qbz{α:Type}(l:List α):lenR l=l.length:=by unfold lenR;rw[qlP];rfl
def setR{α:Type}(x:α)(l:List α):Nat→List α:=List.rec (motive:=fun _=>Nat→List α) (fun _=>[]) (fun y ys ih n=>Nat.rec (x::ys) (fun m _=>y::ih m) n) l
theorem qh2{α:Type}(x:α):∀(l:List α) (n:Nat),setR x l n=l.set n x
 | [],n=>by simp[setR]
 | y::ys,0=>rfl
 | y::ys,n+1=>by rw[List.set_cons_succ,←qh2 x ys n];rfl
def appR{α:Type}(l m:List α):List α:=List.rec m (fun x _ ih=>x::ih) l
theorem qbm{α:Type}:∀(l m:List α),appR l m=l++m
 | [],m=>rfl
 | x::xs,m=>by rw[qtO,←qbm xs m];rfl
def qgJ{α:Type}(l:List α):Nat→List α:=List.rec (motive:=fun _=>Nat→List α) (fun _=>[]) (fun y _ ih n=>Nat.rec [] (fun m _=>y::ih m) n) l
theorem qc5{α:Type}:∀(l:List α) (n:Nat),qgJ l n=l.take n
 | [],n=>by simp[qgJ]
 | y::ys,0=>rfl
 | y::ys,n+1=>by rw[List.take_succ_cons,←qc5 ys n];rfl
def qhd{α:Type}(l:List α):Nat→List α:=List.rec (motive:=fun _=>Nat→List α) (fun _=>[]) (fun y ys ih n=>Nat.rec (y::ys) (fun m _=>ih m) n) l
theorem qc0{α:Type}:∀(l:List α) (n:Nat),qhd l n=l.drop n
 | [],n=>by simp[qhd]
 | y::ys,0=>rfl
 | y::ys,n+1=>by rw[List.drop_succ_cons,←qc0 ys n];rfl
def andR(a b:Bool):Bool:=Bool.rec false b a
theorem qex(a b:Bool):andR a b=(a && b):=by cases a <;> rfl
def iteR{α:Type}(c:Bool)(a b:α):α:=Bool.rec b a c
theorem qaZ{α:Type}(c:Bool)(a b:α):iteR c a b=if c=true then a else b:=by cases c <;> rfl
def allR{α:Type}(f:α→Bool)(l:List α):Bool:=List.rec true (fun x _ ih=>Bool.rec false ih (f x)) l
theorem qdo{α:Type}(f:α→Bool):∀(l:List α),allR f l=l.all f
 | []=>rfl
 | x::xs=>by
  rw[List.all_cons,←qdo f xs];show (Bool.rec false (allR f xs) (f x):Bool)=_;cases f x <;> rfl
def qix(f:Nat):Nat→List Bool:=Nat.rec (motive:=fun _=>Nat→List Bool) (fun _=>[]) (fun _ ih n=>Nat.rec [] (fun m _=>Nat.beq (Nat.mod m 2) 1::ih (Nat.div m 2)) n) f
def path(n:Nat):List Bool:=qix n n
theorem qho:∀(f g n m:Nat),n≤f→m≤g→qix f n=qix g m→n=m
 | f,g,0,0,_,_,_=>rfl
 | f,g+1,0,m+1,_,_,h=>by
  have h1:qix f 0=[]:=by cases f <;> rfl
  rw[h1] at h;exact absurd h (by show []≠_::_;simp)
 | f+1,g,n+1,0,_,_,h=>by
  have h1:qix g 0=[]:=by cases g <;> rfl
  rw[h1] at h;exact absurd h (by show _::_≠[];simp)
 | f+1,g+1,n+1,m+1,hn,hm,h=>by
  have h':(Nat.beq (Nat.mod n 2) 1::qix f (Nat.div n 2))=(Nat.beq (Nat.mod m 2) 1::qix g (Nat.div m 2)):=h;simp only[List.cons.injEq] at h';obtain ⟨h1,h2⟩:=h';have h3:n / 2=m / 2:=qho f g (n / 2) (m / 2) (by omega) (by omega) h2
  have h4:(n % 2=1↔m % 2=1):=by
   have:(Nat.beq (n % 2) 1=true↔Nat.beq (m % 2) 1=true):=by
    show (Nat.beq (Nat.mod n 2) 1=true↔Nat.beq (Nat.mod m 2) 1=true);rw[h1]
   simpa using this
  omega
theorem qeg{n m:Nat}(h:path n=path m):n=m:=qho n m n m (qtH _) (qtH _) h
inductive Tx(α:Type) where
 | nil
 | node (v:Option α) (l r:Tx α)
def Tx.get{α:Type}(p:List Bool):Tx α→Option α:=List.rec (motive:=fun _=>Tx α→Option α) (fun t=>Tx.rec none (fun v _ _ _ _=>v) t) (fun b _ ih t=>Tx.rec none (fun _ l r _ _=>ih (Bool.rec l r b)) t) p
def Tx.put{α:Type}(x:α)(p:List Bool):Tx α→Tx α:=List.rec (motive:=fun _=>Tx α→Tx α) (fun t=>Tx.rec (.node (some x) .nil .nil) (fun _ l r _ _=>.node (some x) l r) t)
 (fun b _ ih t=>Tx.rec (Bool.rec (.node none (ih .nil) .nil) (.node none .nil (ih .nil)) b) (fun v l r _ _=>Bool.rec (.node v (ih l) r) (.node v l (ih r)) b) t) p
theorem Tx.get_put_same{α:Type}(x:α):∀(p:List Bool) (t:Tx α),(Tx.put x p t).get p=some x
 | [],t=>by cases t <;> rfl
 | b::p,t=>by
  cases t with
  | nil=>cases b <;> exact Tx.get_put_same x p .nil
  | node v l r=>cases b <;> first|exact Tx.get_put_same x p l|exact Tx.get_put_same x p r
theorem Tx.get_nil{α:Type}:∀(p:List Bool),(Tx.nil:Tx α).get p=none
 | []=>rfl
 | b::p=>rfl
theorem Tx.get_put_ne{α:Type}(x:α):∀(p q:List Bool) (t:Tx α),p≠q→(Tx.put x p t).get q=t.get q
 | [],[],t,h=>absurd rfl h
 | [],b::q,t,_=>by cases t <;> cases b <;> first|rfl|exact Tx.get_nil q
 | b::p,[],t,_=>by cases t <;> cases b <;> rfl
 | b::p,c::q,t,h=>by
  have hn:b=c→p≠q:=fun hb hp=>h (by rw[hb,hp])
  cases t with
  | nil=>cases b <;> cases c <;> first
   | exact (Tx.get_put_ne x p q .nil (hn rfl)).trans (Tx.get_nil q)
   | exact Tx.get_nil q
  | node v l r=>cases b <;> cases c <;> first
   | exact Tx.get_put_ne x p q l (hn rfl)
   | exact Tx.get_put_ne x p q r (hn rfl)
   | rfl
abbrev TE:=Tx V
def TE.sub(t:TE)(e:Env):Prop:=∀k v,Tx.get (path k) t=some v→e.get k=some v
def TE.put(t:TE)(d:Option Nat)(v:V):TE:=Option.rec t (fun k=>Tx.put v (path k) t) d
theorem TE.sub_put{t:TE}{e:Env}(h:t.sub e)(d:Option Nat)(v:V):(TE.put t d v).sub (e.put d v):=by
 cases d with
 | none=>exact h
 | some k=>
  intro j w hj;simp only[Env.put,Env.get];by_cases hk:k=j
  ·subst hk;rw[if_pos rfl];have:=hj.symm.trans (Tx.get_put_same v (path k) t);exact this.symm
  ·rw[if_neg hk];exact h j w ((Tx.get_put_ne v (path k) (path j) t (fun hp=>hk (qeg hp))).symm.trans hj)
structure TS where
 len:Nat
 tr:Tx Ob
def Ob.sk:Ob→Ob
 | .loop i=>.loop ⟨i.st,i.pend,[],.skip,.skip,[],0⟩
 | o=>o
theorem qeR{S:St}{l sz wr:Nat}{xs:List V}(h:(S[l]?).map Ob.sk=some (.arr xs sz wr)):S[l]?=some (.arr xs sz wr):=by
 cases ho:S[l]? with
 | none=>rw[ho] at h;cases h
 | some o=>rw[ho] at h;cases o <;> simp only[qtU,Ob.sk,Option.some.injEq,reduceCtorEq] at h;rw[h]
theorem qgn{S:St}{l ck:Nat}{es:List (V×V)}{bs:List Nat}(h:(S[l]?).map Ob.sk=some (.map es bs ck)):S[l]?=some (.map es bs ck):=by
 cases ho:S[l]? with
 | none=>rw[ho] at h;cases h
 | some o=>rw[ho] at h;cases o <;> simp only[qtU,Ob.sk,Option.some.injEq,reduceCtorEq] at h;rw[h]
theorem qml{S:St}{l lm since last:Nat}{seen:List Nat}(h:(S[l]?).map Ob.sk=some (.iter lm since seen last)):S[l]?=some (.iter lm since seen last):=by
 cases ho:S[l]? with
 | none=>rw[ho] at h;cases h
 | some o=>rw[ho] at h;cases o <;> simp only[qtU,Ob.sk,Option.some.injEq,reduceCtorEq] at h;rw[h]
theorem qdf{S:St}{l:Nat}{i:LI}(h:(S[l]?).map Ob.sk=some (.loop i)):∃j,S[l]?=some (.loop j)∧j.st=i.st∧j.pend=i.pend:=by
 cases ho:S[l]? with
 | none=>rw[ho] at h;cases h
 | some o=>
  rw[ho] at h;cases o <;> simp only[qtU,Ob.sk,Option.some.injEq,reduceCtorEq,Ob.loop.injEq] at h;exact ⟨_,rfl,by rw[←h],by rw[←h]⟩
def TS.Abs(t:TS)(S:St):Prop:=S.length=t.len∧∀l,l<t.len→t.tr.get (path l)=(S[l]?).map Ob.sk
def TS.get(t:TS)(l:Nat)(c:Ob→Bool):Bool:=Bool.rec false (Option.rec false c (t.tr.get (path l))) (Nat.ble (Nat.succ l) t.len)
theorem TS.get_spec{t:TS}{S:St}{l:Nat}{c:Ob→Bool}(h:t.Abs S)(hc:t.get l c=true):∃o,(S[l]?).map Ob.sk=some o∧c o=true:=by
 unfold TS.get at hc
 cases hb:Nat.ble (Nat.succ l) t.len with
 | false=>rw[hb] at hc;cases hc
 | true=>
  rw[hb] at hc;have hlt:l<t.len:=Nat.le_of_ble_eq_true hb
  cases hg:t.tr.get (path l) with
  | none=>rw[hg] at hc;cases hc
  | some o=>rw[hg] at hc;exact ⟨o,(h.2 l hlt).symm.trans hg,hc⟩
def TS.set(t:TS)(l:Nat)(o:Ob):TS:=⟨t.len,t.tr.put o (path l)⟩
theorem TS.set_abs'{t:TS}{S:St}{l:Nat}{o o' o1:Ob}(h:t.Abs S)(hl:S[l]?=some o')(hk:o1.sk=o):(t.set l o).Abs (S.set l o1):=by
 subst hk;have hlt:l<S.length:=(qtB.1 hl).1;refine ⟨by simp[TS.set,h.1],fun j hj=>?_⟩;simp only[TS.set] at hj ⊢;by_cases hk:l=j
 ·subst hk;rw[Tx.get_put_same,qtE hlt];rfl
 ·rw[Tx.get_put_ne _ _ _ _ (fun hp=>hk (qeg hp)),qtG hk];exact h.2 j hj
def qb2(m:Nat)(c:Nat→Bool):Bool:=Nat.rec (c 0) (fun k _=>c (Nat.succ k)) m
theorem qbu(m:Nat)(c:Nat→Bool):qb2 m c=c m:=by cases m <;> rfl
def TS.push(t:TS)(o:Ob):TS:=⟨Nat.succ t.len,t.tr.put o (path t.len)⟩
theorem TS.push_abs'{t:TS}{S:St}{o o1:Ob}(h:t.Abs S)(hk:o1.sk=o):(t.push o).Abs (S++[o1]):=by
 subst hk;refine ⟨by simp[TS.push,h.1],fun j hj=>?_⟩;simp only[TS.push] at hj ⊢;by_cases hk:t.len=j
 ·subst hk;rw[Tx.get_put_same,←h.1];simp
 ·rw[Tx.get_put_ne _ _ _ _ (fun hp=>hk (qeg hp)),h.2 j (by omega),qtD (by rw[h.1];omega)]
theorem TS.set_abs{t:TS}{S:St}{l:Nat}{o o':Ob}(h:t.Abs S)(hl:S[l]?=some o')(hk:o.sk=o:=by rfl):(t.set l o).Abs (S.set l o):=TS.set_abs' h hl hk
theorem TS.push_abs{t:TS}{S:St}{o:Ob}(h:t.Abs S)(hk:o.sk=o:=by rfl):(t.push o).Abs (S++[o]):=TS.push_abs' h hk
def qdG(v:V):Nat:=lenR v.cells
theorem qbZ(v:V):qdG v=v.size:=qbz _
def qf8(l:List V):Bool:=allR V.flat l
theorem qdi(l:List V):qf8 l=l.all V.flat:=qdo _ _
def qgK(a:List UInt8):List UInt8→Bool:=List.rec (motive:=fun _=>List UInt8→Bool) (fun b=>List.rec true (fun _ _ _=>false) b) (fun x _ ih b=>List.rec false (fun y ys _=>Bool.rec false (ih ys) (Nat.beq x.toNat y.toNat)) b) a
theorem qo5(x y:UInt8):Nat.beq x.toNat y.toNat=(x==y):=by
 rw[qui];simp;exact ⟨fun h=>UInt8.toNat_inj.1 h,fun h=>by rw[h]⟩
theorem qdW:∀(a b:List UInt8),qgK a b=(a==b)
 | [],[]=>rfl
 | [],_::_=>rfl
 | _::_,[]=>rfl
 | x::xs,y::ys=>by
  show (Bool.rec false (qgK xs ys) (Nat.beq x.toNat y.toNat):Bool)=_;rw[qdW xs ys,qo5];rw[List.cons_beq_cons];cases (x==y) <;> rfl
def qdk(a b:ByteArray):Bool:=qgK a.data.toList b.data.toList
theorem qfo(bs:ByteArray):∀(k i:Nat) (r:List UInt8),bs.size - i≤k→ByteArray.toList.loop bs i r=r.reverse++bs.data.toList.drop i
 | k,i,r,hk=>by
  unfold ByteArray.toList.loop;split
  ·rename_i hi
   cases k with
   | zero=>omega
   | succ k=>
    rw[qfo bs k (i+1) _ (by omega)];have hi':i<bs.data.toList.length:=by simpa using hi
    rw[List.reverse_cons,qt1,qu0 hi'];congr 1;simp only[List.singleton_append,List.cons.injEq,and_true];have hi2:i<bs.data.size:=hi;show bs.data[i]! =bs.data.toList[i];rw[getElem!_pos bs.data i hi2];simp
  ·rename_i hi;rw[quZ (by simpa using Nat.le_of_not_lt hi)];simp
theorem qbW(bs:ByteArray):bs.toList=bs.data.toList:=by
 unfold ByteArray.toList;rw[qfo bs _ 0 [] (qtH _)];simp
theorem qoh(a b:ByteArray):(a.data.toList==b.data.toList)=qg6 a b:=by
 unfold qg6;rw[qbW,qbW]
theorem qhw(a b:ByteArray):qdk a b=qg6 a b:=by unfold qdk;rw[qdW,qoh]
def optR{α:Type}(o:Option α)(c:α→Bool):Bool:=Option.rec false c o
theorem qaB{α:Type}{o:Option α}{c:α→Bool}(h:optR o c=true):∃v,o=some v∧c v=true:=by
 cases o with
 | none=>cases h
 | some v=>exact ⟨v,rfl,h⟩
theorem qax{a b:Bool}(h:andR a b=true):a=true∧b=true:=by rw[qex,qtJ] at h;exact h
theorem qao{a b:Bool}(h:iteR a b false=true):a=true∧b=true:=by cases a <;> first|exact ⟨rfl,h⟩|cases h
theorem qaQ{a b:Nat}(h:Nat.ble a b=true):a≤b:=Nat.le_of_ble_eq_true h
theorem qaL{a b:Nat}(h:Nat.beq a b=true):a=b:=Nat.eq_of_beq_eq_true h
def opd(x:Opd)(tr:TE)(c:V→Bool):Bool:=Opd.rec (fun n=>optR (Tx.get (path n) tr) c) (fun v=>c v) (fun f=>c (.fn (.func f) [] [])) x
theorem qau{x:Opd}{tr:TE}{e:Env}{c:V→Bool}(ht:tr.sub e)(h:opd x tr c=true):∃v,x.ev e=some v∧c v=true:=by
 cases x with
 | t n=>
  obtain ⟨v,h1,h2⟩:=qaB (show optR (Tx.get (path n) tr) c=true from h);exact ⟨v,ht n v h1,h2⟩
 | c v=>exact ⟨v,rfl,h⟩
 | f k=>exact ⟨_,rfl,h⟩
def evsR(xs:List Opd)(tr:TE):(List V→Bool)→Bool:=List.rec (motive:=fun _=>(List V→Bool)→Bool) (fun c=>c []) (fun x _ ih c=>opd x tr fun v=>ih fun vs=>c (v::vs)) xs
theorem qbP{tr:TE}{e:Env}(ht:tr.sub e):∀{xs:List Opd} {c:List V→Bool},evsR xs tr c=true→∃vs,evs e xs=some vs∧c vs=true
 | [],c,h=>⟨[],rfl,h⟩
 | x::xs,c,h=>by
  obtain ⟨v,h1,h2⟩:=qau (c:=fun v=>evsR xs tr fun vs=>c (v::vs)) ht h;obtain ⟨vs,h3,h4⟩:=qbP ht h2;exact ⟨v::vs,by simp only[evs,h1,h3],h4⟩
def Done(e:Env)(S:St)(k:K)(c:V→TS→Bool):Prop:=∃r S' ts',evK e S k=some (r,S')∧ts'.Abs S'∧c r ts'=true
def qj5(k:IntKind)(x:Int):Int:=Int.rec (fun m=>IntKind.rec (k.wrap (Int.ofNat m)) (k.wrap (Int.ofNat m)) (k.wrap (Int.ofNat m)) (iteR (Nat.ble m 9223372036854775807) (Int.ofNat m) (k.wrap (Int.ofNat m))) (k.wrap (Int.ofNat m)) (k.wrap (Int.ofNat m)) (k.wrap (Int.ofNat m)) (k.wrap (Int.ofNat m)) k) (fun m=>k.wrap (Int.negSucc m)) x
theorem qju(k:IntKind)(x:Int):qj5 k x=k.wrap x:=by
 cases x with
 | negSucc m=>rfl
 | ofNat m=>
  cases k <;> try rfl
  show iteR (Nat.ble m 9223372036854775807) (Int.ofNat m) (IntKind.i64.wrap (Int.ofNat m))=_;rw[qaZ];split
  ·rename_i h;have:=qaQ h;have h1:(Int.ofNat m) % (2 ^ IntKind.i64.bits:Int)=Int.ofNat m:=Int.emod_eq_of_lt (by simp) (by show (m:Int)<2 ^ 64;omega);have h2:¬ ((m:Int)≥2 ^ 63):=by omega
   unfold IntKind.wrap;simp only[h1];rw[if_neg];intro hh;rw[qtJ,decide_eq_true_iff] at hh;exact h2 hh.2
  ·rfl
def addR(a b:Int):Int:=Int.rec (fun m=>Int.rec (fun n=>Int.ofNat (Nat.add m n)) (fun _=>a+b) b) (fun _=>a+b) a
theorem qpQ(a b:Int):addR a b=a+b:=by cases a <;> cases b <;> rfl
def subR(a b:Int):Int:=Int.rec (fun m=>Int.rec (fun n=>iteR (Nat.ble n m) (Int.ofNat (Nat.sub m n)) (a - b)) (fun _=>a - b) b) (fun _=>a - b) a
theorem qpv(a b:Int):subR a b=a - b:=by
 cases a <;> cases b <;> try rfl
 rename_i m n;show iteR (Nat.ble n m) (Int.ofNat (Nat.sub m n)) (Int.ofNat m - Int.ofNat n)=_;rw[qaZ];split
 ·rename_i h;have:=qaQ h;show ((m - n:Nat):Int)=(m:Int) - (n:Int);omega
 ·rfl
def mulR(a b:Int):Int:=Int.rec (fun m=>Int.rec (fun n=>Int.ofNat (Nat.mul m n)) (fun _=>a * b) b) (fun _=>a * b) a
theorem qqz(a b:Int):mulR a b=a * b:=by cases a <;> cases b <;> rfl
def ltR(a b:Int):Bool:=Int.rec (fun m=>Int.rec (fun n=>Nat.ble (Nat.succ m) n) (fun _=>false) b) (fun m=>Int.rec (fun _=>true) (fun n=>Nat.ble (Nat.succ n) m) b) a
theorem qem{a b:Nat}:Nat.ble a b=true↔a≤b:=⟨qaQ,fun h=>Nat.ble_eq_true_of_le h⟩
theorem qsr(a b:Int):ltR a b=decide (a<b):=by
 rw[qui,decide_eq_true_iff]
 cases a with
 | ofNat m=>cases b with
  | ofNat n=>show Nat.ble (Nat.succ m) n=true↔_;rw[qem];simp;omega
  | negSucc n=>show false=true↔_;simp;omega
 | negSucc m=>cases b with
  | ofNat n=>show true=true↔_;simp;omega
  | negSucc n=>show Nat.ble (Nat.succ n) m=true↔_;rw[qem];simp[Int.negSucc_eq];omega
def eqR(a b:Int):Bool:=Int.rec (fun m=>Int.rec (fun n=>Nat.beq m n) (fun _=>false) b) (fun m=>Int.rec (fun _=>false) (fun n=>Nat.beq m n) b) a
theorem qs4(a b:Int):eqR a b=decide (a=b):=by
 rw[qui,decide_eq_true_iff]
 cases a with
 | ofNat m=>cases b with
  | ofNat n=>show Nat.beq m n=true↔_;rw[Nat.beq_eq];exact ⟨fun h=>by rw[h],fun h=>Int.ofNat.inj h⟩
  | negSucc n=>show false=true↔_;simp
 | negSucc m=>cases b with
  | ofNat n=>show false=true↔_;simp
  | negSucc n=>show Nat.beq m n=true↔_;simp
def quoR(a b:Int):Int:=Int.rec (fun m=>Int.rec (fun n=>Int.ofNat (Nat.div m n)) (fun _=>a.tdiv b) b) (fun _=>a.tdiv b) a
theorem qrI(a b:Int):quoR a b=a.tdiv b:=by cases a <;> cases b <;> rfl
def remR(a b:Int):Int:=Int.rec (fun m=>Int.rec (fun n=>Int.ofNat (Nat.mod m n)) (fun _=>a.tmod b) b) (fun _=>a.tmod b) a
theorem qp7(a b:Int):remR a b=a.tmod b:=by cases a <;> cases b <;> rfl
def notR(b:Bool):Bool:=Bool.rec true false b
theorem qes(b:Bool):notR b=!b:=by cases b <;> rfl
def qoN(op:BinOp)(k:IntKind)(a b:Int):Option V:=
 match op with
 | .add=>some (.int k (qj5 k (addR a b)))
 | .sub=>some (.int k (qj5 k (subR a b)))
 | .mul=>some (.int k (qj5 k (mulR a b)))
 | .quo=>iteR (eqR b 0) none (some (.int k (qj5 k (quoR a b))))
 | .rem=>iteR (eqR b 0) none (some (.int k (remR a b)))
 | .eql=>some (.bool (eqR a b))
 | .neq=>some (.bool (notR (eqR a b)))
 | .lss=>some (.bool (ltR a b))
 | .leq=>some (.bool (notR (ltR b a)))
 | .gtr=>some (.bool (ltR b a))
 | .geq=>some (.bool (notR (ltR a b)))
 | op=>intV op k a b
theorem qol(op:BinOp)(k:IntKind)(a b:Int):qoN op k a b=intV op k a b:=by
 cases op <;> simp only[qoN,intV,qju,qpQ,qpv,qqz,qs4,qsr,qes,qrI,qp7,qaZ,decide_eq_true_eq]
 all_goals first
  | rfl
  | (congr 2;rw[←decide_not];congr 1;simp)
def qph(op:BinOp)(a b:ByteArray):Option V:=
 match op with
 | .eql=>some (.bool (qdk a b))
 | .neq=>some (.bool (notR (qdk a b)))
 | op=>strV op a b
theorem qjb(op:BinOp)(a b:ByteArray):qph op a b=strV op a b:=by
 cases op <;> simp only[qph,strV,qhw,qes]
def qln(k k':IntKind):Bool:=Nat.beq (IntKind.rec 0 1 2 3 4 5 6 7 k) (IntKind.rec 0 1 2 3 4 5 6 7 k')
theorem qig{k k':IntKind}(h:qln k k'=true):k=k':=by cases k <;> cases k' <;> first|rfl|cases h
def isSh(op:BinOp):Bool:=match op with|.shl=>true|.shr=>true|_=>false
def binR(op:BinOp)(x y:V)(c:V→Bool):Bool:=
 match x with
 | .int k a=>match y with
  | .int k' b=>iteR (isSh op) (optR (shV op k a b) c) (iteR (qln k k') (optR (qoN op k a b) c) false)
  | _=>false
 | .str a=>match y with
  | .str b=>optR (qph op a b) c
  | _=>false
 | _=>false
theorem qkQ{op:BinOp}{x y:V}{c:V→Bool}(h:binR op x y c=true):∃r,binV op x y=some r∧c r=true:=by
 unfold binR at h;split at h
 ·split at h
  ·rename_i k a k' b;rw[qaZ] at h;simp only[binV];split at h
   ·rename_i hs;rw[if_pos (by cases op <;> simp[isSh] at hs ⊢)];exact qaB h
   ·rename_i hs;obtain ⟨h1,h2⟩:=qao h;rw[if_neg (by cases op <;> simp[isSh] at hs ⊢),if_pos (qig h1)];rw[qol] at h2;exact qaB h2
  ·cases h
 ·split at h
  ·rw[qjb] at h;exact qaB h
  ·cases h
 ·cases h
def qjU(v:V)(off:Nat)(k:Option Nat):Option V:=
 Option.rec (nthR v.cells off) (fun n=>iteR (andR (Nat.beq off 0) (andR (Nat.beq n (qdG v)) v.isAgg)) (some v) (match v with
  | .agg cs=>iteR (Nat.ble (Nat.add off n) (lenR cs)) (some (.agg (qgJ (qhd cs off) n))) none
  | _=>none)) k
theorem qdC{a b:Nat}:Nat.beq a b=true↔a=b:=⟨qaL,fun h=>by subst h;simp⟩
theorem qd6(v:V)(off:Nat)(k:Option Nat):qjU v off k=v.part off k:=by
 cases k with
 | none=>exact qdO _ _
 | some n=>
  show iteR (andR (Nat.beq off 0) (andR (Nat.beq n (qdG v)) v.isAgg)) (some v) _=_;simp only[V.part,qaZ,qex,qtJ,qdC,qbZ];split
  ·rfl
  ·split
   ·rename_i cs;rw[qbz,qc5,qc0];simp only[qem];rfl
   ·rename_i hne;cases v <;> first|rfl|exact absurd rfl (hne _)
def updR(v:V)(off n:Nat)(x:V):Option V:=
 iteR (andR (Nat.beq (qdG x) n) (qf8 x.cells)) (iteR (andR (Nat.beq off 0) (Nat.beq n (qdG v))) (some x) (match v with
  | .agg cs=>iteR (Nat.ble (Nat.add off n) (lenR cs)) (some (.agg (appR (qgJ cs off) (appR x.cells (qhd cs (Nat.add off n)))))) none
  | _=>none)) none
theorem qmf(v:V)(off n:Nat)(x:V):updR v off n x=v.upd off n x:=by
 simp only[updR,V.upd,qaZ,qex,qtJ,qdC,qbZ,qdi];split
 ·split
  ·rfl
  ·split
   ·rename_i cs;rw[qbz,qc5,qc0,qbm,qbm];simp only[qem,qt1];rfl
   ·rename_i hne;cases v <;> first|rfl|exact absurd rfl (hne _)
 ·rfl
def ldR(p:V)(k:Option Nat)(ts:TS)(c:V→Bool):Bool:=
 match p with
 | .iptr v off=>optR (qjU v off k) c
 | .ptr l i off st=>ts.get l fun o=>match o with
  | .arr xs _ wr=>iteR (andR (Nat.ble wr st) (Nat.ble (Nat.succ i) st)) (optR (nthR xs i) fun v=>optR (qjU v off k) c) false
  | _=>false
 | .glob g off=>optR (qjN g off) fun q=>optR (qjU (.int q.1 q.2) 0 k) c
 | _=>false
theorem qjc{p:V}{k:Option Nat}{ts:TS}{S:St}{c:V→Bool}(hs:ts.Abs S)(h:ldR p k ts c=true):∃v,ldS S p k=some v∧c v=true:=by
 unfold ldR at h;split at h
 ·rw[qd6] at h;exact qaB h
 ·obtain ⟨o,h1,h2⟩:=TS.get_spec hs h;split at h2 <;> try cases h2
  have h1:=qeR h1;obtain ⟨h3,h4⟩:=qao h2;obtain ⟨h5,h6⟩:=qax h3;obtain ⟨v,h7,h8⟩:=qaB h4;rw[qdO] at h7;rw[qd6] at h8;obtain ⟨r,h9,h10⟩:=qaB h8;simp only[ldS,h1];exact ⟨r,by rw[if_pos ⟨qaQ h5,qaQ h6⟩,h7];exact h9,h10⟩
 ·obtain ⟨q,h1,h2⟩:=qaB h;obtain ⟨r,h3,h4⟩:=qaB h2;rw[qd6] at h3;exact ⟨r,by simp only[ldS,h1];exact h3,h4⟩
 ·cases h
def stR(p:V)(n:Nat)(x:V)(ts:TS)(c:TS→Bool):Bool:=
 match p with
 | .ptr l i off st=>ts.get l fun o=>match o with
  | .arr xs sz _=>iteR (Nat.beq st (lenR xs)) (optR (nthR xs i) fun v=>optR (updR v off n x) fun v'=>c (ts.set l (.arr (setR v' xs i) sz st))) false
  | _=>false
 | _=>false
theorem qnU{p x:V}{n:Nat}{ts:TS}{S:St}{c:TS→Bool}(hs:ts.Abs S)(h:stR p n x ts c=true):∃S' ts',stS S p n x=some S'∧ts'.Abs S'∧c ts'=true:=by
 unfold stR at h;split at h <;> try cases h
 obtain ⟨o,h1,h2⟩:=TS.get_spec hs h;split at h2 <;> try cases h2
 have h1:=qeR h1;obtain ⟨h3,h4⟩:=qao h2;obtain ⟨v,h5,h6⟩:=qaB h4;obtain ⟨v',h7,h8⟩:=qaB h6;rw[qbz] at h3;rw[qdO] at h5;rw[qmf] at h7;rw[qh2] at h8;refine ⟨_,_,?_,TS.set_abs hs h1,h8⟩;simp only[stS,h1];rw[if_pos (qaL h3),h5];simp only[qtT,h7,qtU]
def boxR(x:V)(ts:TS)(c:V→TS→Bool):Bool:=
 iteR (andR (qf8 x.cells) (Nat.ble 1 (qdG x))) (qb2 ts.len fun n=>c (.ptr n 0 0 1) (TS.push ⟨n,ts.tr⟩ (.arr [x] (qdG x) 1))) false
theorem qhN{x:V}{ts:TS}{S:St}{c:V→TS→Bool}(hs:ts.Abs S)(h:boxR x ts c=true):∃r S' ts',boxS S x=some (r,S')∧ts'.Abs S'∧c r ts'=true:=by
 unfold boxR at h;obtain ⟨h1,h2⟩:=qao h;obtain ⟨h3,h4⟩:=qax h1;rw[qbu] at h2;rw[qdi] at h3;rw[qbZ] at h4 h2;refine ⟨_,_,_,?_,TS.push_abs (o:=.arr [x] x.size 1) hs,h2⟩;simp only[boxS];rw[if_pos ⟨h3,qaQ h4⟩,hs.1]
def qjn(v:V)(ts:TS)(c:List V→Bool):Bool:=
 match v with
 | .sl _ xs=>c xs
 | .arr l off len st=>ts.get l fun o=>match o with
  | .arr xs _ wr=>iteR (andR (Nat.ble wr st) (Nat.ble (Nat.add off len) st)) (c (qgJ (qhd xs off) len)) false
  | _=>false
 | _=>false
theorem qfx{v:V}{ts:TS}{S:St}{c:List V→Bool}(hs:ts.Abs S)(h:qjn v ts c=true):∃xs,elems S v=some xs∧c xs=true:=by
 unfold qjn at h;split at h
 ·exact ⟨_,rfl,h⟩
 ·obtain ⟨o,h1,h2⟩:=TS.get_spec hs h;split at h2 <;> try cases h2
  have h1:=qeR h1;obtain ⟨h3,h4⟩:=qao h2;obtain ⟨h5,h6⟩:=qax h3;rw[qc5,qc0] at h4;simp only[elems,h1];exact ⟨_,if_pos ⟨qaQ h5,qaQ h6⟩,h4⟩
 ·cases h
def qmv(sz:Nat)(ys:List V):Bool:=allR (fun y=>andR (Nat.beq (qdG y) sz) (qf8 y.cells)) ys
theorem qeF(a b:Nat):Nat.beq a b=(a==b):=by rw[qui,Nat.beq_eq];simp
theorem qgM(sz:Nat)(ys:List V):qmv sz ys=fits sz ys:=by
 simp only[qmv,fits,qdo,qex,qbZ,qdi,qeF]
def qfH{α:Type}(l:List α):Bool:=List.rec true (fun _ _ _=>false) l
theorem qfy{α:Type}(l:List α):qfH l=l.isEmpty:=by cases l <;> rfl
def qq5(sz bytes:Nat)(d x:V)(ts:TS)(c:V→TS→Bool):Bool:=
 qjn x ts fun ys=>match d with
  | .sl e xs=>iteR (qfH ys) (c d ts) (iteR (andR e (andR (qmv sz ys) (andR (allR (fun v=>Nat.beq (qdG v) sz) xs) (Nat.ble (Nat.mul (Nat.add (lenR xs) (lenR ys)) bytes) 140737488355328))))
    (qb2 ts.len fun n=>qb2 (Nat.add (lenR xs) (lenR ys)) fun m=>c (.arr n 0 m m) (TS.push ⟨n,ts.tr⟩ (.arr (appR xs ys) sz m))) false)
  | .arr l off len st=>ts.get l fun o=>match o with
   | .arr zs s wr=>qb2 (lenR zs) fun lz=>iteR (andR (Nat.beq off 0) (andR (Nat.beq len lz) (andR (Nat.beq st lz) (andR (Nat.beq s sz) (andR (qmv sz ys) (Nat.ble (Nat.mul (Nat.add lz (lenR ys)) bytes) 140737488355328))))))
     (qb2 (Nat.add lz (lenR ys)) fun m=>c (.arr l 0 m m) (ts.set l (.arr (appR zs ys) sz wr))) false
   | _=>false
  | _=>false
theorem qkH{sz bytes:Nat}{d x:V}{ts:TS}{S:St}{c:V→TS→Bool}(hs:ts.Abs S)(h:qq5 sz bytes d x ts c=true):∃r S' ts',appS S sz bytes d x=some (r,S')∧ts'.Abs S'∧c r ts'=true:=by
 unfold qq5 at h;obtain ⟨ys,h1,h2⟩:=qfx hs h;simp only[appS,h1];split at h2
 ·rw[qaZ,qfy] at h2;split at h2
  ·rename_i hy;exact ⟨_,_,ts,if_pos hy,hs,h2⟩
  ·rename_i hy;obtain ⟨g1,g2⟩:=qao h2;obtain ⟨q1,g3⟩:=qax g1;obtain ⟨q2,g4⟩:=qax g3;obtain ⟨q3,q4⟩:=qax g4;rw[qgM] at q2;rw[qdo] at q3;simp only[qbz,qbu,qbm] at g2 q4;have q4:=qaQ q4;refine ⟨_,_,_,?_,TS.push_abs hs,g2⟩;show (if ys.isEmpty=true then _ else _)=_;rw[if_neg hy,if_pos ⟨q1,q2,by simpa only[qbZ,qeF] using q3,q4⟩,hs.1];rfl
 ·obtain ⟨o,k1,k2⟩:=TS.get_spec hs h2;split at k2 <;> try cases k2
  have k1:=qeR k1;simp only[qbu] at k2;obtain ⟨g1,g2⟩:=qao k2;obtain ⟨q1,g3⟩:=qax g1;obtain ⟨q2,g4⟩:=qax g3;obtain ⟨q3,g5⟩:=qax g4;obtain ⟨q4,g6⟩:=qax g5;obtain ⟨q5,q6⟩:=qax g6;rw[qgM] at q5;simp only[qbz,qbm] at g2 q2 q3 q6;have q4':=qaL q4;subst q4';have q6:=qaQ q6;simp only[k1];refine ⟨_,_,_,if_pos ⟨qaL q1,qaL q2,qaL q3,trivial,q5,q6⟩,TS.set_abs hs k1,?_⟩;exact g2
 ·cases h2
def qnx(a b:ByteArray):ByteArray:=⟨⟨appR a.data.toList b.data.toList⟩⟩
theorem qmq(a b:ByteArray):qnx a b=a++b:=by
 apply qgO;simp[qnx,qbm]
def qmc(s:ByteArray)(a b:Nat):ByteArray:=⟨⟨qhd (qgJ s.data.toList b) a⟩⟩
theorem qm8(s:ByteArray)(a b:Nat):qmc s a b=s.extract a b:=by
 apply qgO;simp[qmc,qc5,qc0,List.drop_take,List.extract_eq_take_drop]
def qiv(s:ByteArray):Nat:=lenR s.data.toList
theorem qg4(s:ByteArray):qiv s=s.size:=by rw[qiv,qbz];rfl
def ltS(a:List UInt8):List UInt8→Bool:=List.rec (motive:=fun _=>List UInt8→Bool) (fun b=>List.rec false (fun _ _ _=>true) b)
 (fun x _ ih b=>List.rec false (fun y ys _=>Bool.rec (Bool.rec false (ih ys) (Nat.beq x.toNat y.toNat)) true (Nat.ble (Nat.succ x.toNat) y.toNat)) b) a
theorem qoT:∀(a b:List UInt8),ltS a b=Op.bytesLess a b
 | [],[]=>rfl
 | [],_::_=>rfl
 | _::_,[]=>rfl
 | x::xs,y::ys=>by
  show (Bool.rec (Bool.rec false (ltS xs ys) (Nat.beq x.toNat y.toNat)) true (Nat.ble (Nat.succ x.toNat) y.toNat):Bool)=_;rw[qoT xs ys,qo5];simp only[Op.bytesLess]
  have hd:Nat.ble (Nat.succ x.toNat) y.toNat=decide (x<y):=by
   rw[qui,decide_eq_true_iff,qem];exact UInt8.lt_iff_toNat_lt.symm
  rw[hd];cases decide (x<y) <;> cases (x==y) <;> rfl
def qgh(a b:ByteArray):Bool:=ltS a.data.toList b.data.toList
theorem qni(a b:ByteArray):qgh a b=qhZ a b:=by rw[qgh,qoT,qhZ,qbW,qbW]
def qnr(op:BinOp)(a b:ByteArray):Option V:=
 match op with
 | .eql=>some (.bool (qdk a b))
 | .neq=>some (.bool (notR (qdk a b)))
 | .add=>iteR (Nat.ble (Nat.add (qiv a) (qiv b)) 9223372036854775807) (some (.str (qnx a b))) none
 | .lss=>some (.bool (qgh a b))
 | .leq=>some (.bool (iteR (qgh a b) true (qdk a b)))
 | .gtr=>some (.bool (notR (iteR (qgh a b) true (qdk a b))))
 | .geq=>some (.bool (notR (qgh a b)))
 | _=>none
theorem qlj(op:BinOp)(a b:ByteArray):qnr op a b=strV op a b:=by
 cases op <;> simp only[qnr,strV,qhw,qes,qni,qmq,qg4,qaZ]
 ·have:(Nat.ble (Nat.add a.size b.size) 9223372036854775807=true)↔(((a.size+b.size:Nat):Int)≤IntKind.i64.max):=by
   rw[qem];show a.size+b.size≤_↔((a.size+b.size:Nat):Int)≤9223372036854775807;omega
  simp only[this]
 all_goals (congr 2;first|rfl|(cases qhZ a b <;> simp))
def qpf(op:BinOp)(x y:V)(c:V→Bool):Bool:=
 match x with
 | .int k a=>match y with
  | .int k' b=>iteR (isSh op) (optR (shV op k a b) c) (iteR (qln k k') (optR (qoN op k a b) c) false)
  | _=>false
 | .str a=>match y with
  | .str b=>optR (qnr op a b) c
  | _=>false
 | _=>false
theorem qkb{op:BinOp}{x y:V}{c:V→Bool}(h:qpf op x y c=true):∃r,binV op x y=some r∧c r=true:=by
 refine qkQ (op:=op) (x:=x) (y:=y) (c:=c) ?_;unfold qpf at h;unfold binR;split at h
 ·exact h
 ·split at h
  ·rw[qlj,←qjb] at h;exact h
  ·cases h
 ·cases h
def qmS(ps:List (Nat×Nat×Nat×Opd))(tr:TE):V→(V→Bool)→Bool:=List.rec (motive:=fun _=>V→(V→Bool)→Bool) (fun z c=>c z) (fun p _ ih z c=>opd p.2.2.2 tr fun v=>optR (updR z p.2.1 p.2.2.1 v) fun z'=>ih z' c) ps
theorem qfu{tr:TE}{e:Env}(ht:tr.sub e):∀{ps:List (Nat×Nat×Nat×Opd)} {z:V} {c:V→Bool},qmS ps tr z c=true→∃l r,qah e ps=some l∧qal z (l.map fun p=>p.2)=some r∧c r=true
 | [],z,c,h=>⟨[],z,rfl,rfl,h⟩
 | (f,o,n,x)::ps,z,c,h=>by
  obtain ⟨v,h1,h2⟩:=qau (x:=x) (c:=fun v=>optR (updR z o n v) fun z'=>qmS ps tr z' c) ht h;obtain ⟨z',h3,h4⟩:=qaB h2;obtain ⟨l,r,h5,h6,h7⟩:=qfu ht h4;rw[qmf] at h3;exact ⟨(f,o,n,v)::l,r,by simp only[qah,h1,h5],by simp only[qtW,qal,h3,qtT,h6],h7⟩
def intR(v:V)(c:Int→Bool):Bool:=match v with|.int _ n=>c n|_=>false
theorem qcm{v:V}{c:Int→Bool}(h:intR v c=true):∃k n,v=.int k n∧c n=true:=by
 unfold intR at h;split at h
 ·exact ⟨_,_,rfl,h⟩
 ·cases h
def natR(i:Int)(c:Nat→Bool):Bool:=Int.rec c (fun _=>false) i
theorem qcM{i:Int}{c:Nat→Bool}(h:natR i c=true):∃m:Nat,i=(m:Int)∧c m=true:=by
 cases i with
 | ofNat m=>exact ⟨m,rfl,h⟩
 | negSucc m=>cases h
def qif(v:V)(c:Bool→Bool):Bool:=match v with|.bool b=>c b|_=>false
theorem qel{v:V}{c:Bool→Bool}(h:qif v c=true):∃b,v=.bool b∧c b=true:=by
 unfold qif at h;split at h
 ·exact ⟨_,rfl,h⟩
 ·cases h
def iaR(sz:Nat)(p:V)(i:Int)(ts:TS)(c:V→Bool):Bool:=
 match p with
 | .sl _ xs=>natR i fun m=>optR (nthR xs m) fun v=>iteR (Nat.beq (qdG v) sz) (c (.iptr v 0)) false
 | .arr l off len st=>ts.get l fun o=>match o with
  | .arr _ s wr=>natR i fun m=>iteR (andR (Nat.ble wr st) (andR (Nat.beq s sz) (Nat.ble (Nat.succ m) len))) (qb2 (Nat.add off m) fun j=>c (.ptr l j 0 st)) false
  | _=>false
 | _=>false
theorem qnI{sz:Nat}{p:V}{i:Int}{ts:TS}{S:St}{c:V→Bool}(hs:ts.Abs S)(h:iaR sz p i ts c=true):∃r,iaS S sz p i=some r∧c r=true:=by
 unfold iaR at h;split at h
 ·obtain ⟨m,rfl,h1⟩:=qcM h;obtain ⟨v,h2,h3⟩:=qaB h1;obtain ⟨h4,h5⟩:=qao h3;rw[qdO] at h2;rw[qbZ] at h4;refine ⟨_,?_,h5⟩;simp only[iaS];rw[if_pos (Int.natCast_nonneg m),qvk,h2];exact if_pos (qaL h4)
 ·obtain ⟨o,h1,h2⟩:=TS.get_spec hs h;split at h2 <;> try cases h2
  have h1:=qeR h1;obtain ⟨m,rfl,h3⟩:=qcM h2;obtain ⟨h4,h5⟩:=qao h3;obtain ⟨q1,h6⟩:=qax h4;obtain ⟨q2,q3⟩:=qax h6;rw[qbu] at h5;have q3:=qaQ q3;refine ⟨_,?_,h5⟩;simp only[iaS,h1,qvk];exact if_pos ⟨qaQ q1,qaL q2,Int.natCast_nonneg m,by omega⟩
 ·cases h
def idxR(v:V)(i:Int)(c:V→Bool):Bool:=
 match v with
 | .str s=>natR i fun m=>optR (nthR s.data.toList m) fun b=>c (.int .u8 (Int.ofNat b.toNat))
 | _=>false
theorem ql8{v:V}{i:Int}{c:V→Bool}(h:idxR v i c=true):∃s r,v=.str s∧idxV s i=some r∧c r=true:=by
 unfold idxR at h;split at h <;> try cases h
 obtain ⟨m,rfl,h1⟩:=qcM h;obtain ⟨b,h2,h3⟩:=qaB h1;rw[qdO] at h2;refine ⟨_,_,rfl,?_,h3⟩;simp only[idxV];rw[if_pos (Int.natCast_nonneg m),qvk];rename_i s
 have hb:s[m]?=some b:=by
  obtain ⟨hm,hg⟩:=qtB.1 h2;have hm':m<s.size:=by simpa using hm
  rw[getElem?_pos s m hm'];congr 1
 rw[hb];rfl
def qfj(o:Option Int)(d:Nat)(c:Nat→Bool):Bool:=Option.rec (c d) (fun i=>natR i c) o
theorem qbU{o:Option Int}{d:Nat}{c:Nat→Bool}(h:qfj o d c=true):∃m:Nat,o.getD (d:Int)=(m:Int)∧c m=true:=by
 cases o with
 | none=>exact ⟨d,rfl,h⟩
 | some i=>
  obtain ⟨m,rfl,h1⟩:=qcM (show natR i c=true from h);exact ⟨m,rfl,h1⟩
def slcR(s:Bool)(sz:Nat)(d:V)(lo hi:Option Int)(ts:TS)(c:V→Bool):Bool:=
 match d with
 | .str b=>iteR s (qfj lo 0 fun l=>qfj hi (qiv b) fun h=>iteR (andR (Nat.ble l h) (Nat.ble h (qiv b))) (c (.str (qmc b l h))) false) false
 | .sl x xs=>iteR s false (qfj lo 0 fun l=>qfj hi (lenR xs) fun h=>iteR (andR (Nat.ble l h) (andR (Nat.ble h (lenR xs)) (allR (fun v=>Nat.beq (qdG v) sz) xs))) (c (.sl (andR x (Nat.beq h (lenR xs))) (qhd (qgJ xs h) l))) false)
 | .arr a off len st=>iteR s false (qfj lo 0 fun l=>qfj hi len fun h=>iteR (andR (Nat.ble l h) (Nat.ble h len)) (iteR (Nat.beq l 0) (c (.arr a off h st)) (iteR (Nat.beq l h) (c (.sl false [])) (ts.get a fun o=>match o with
  | .arr _ s wr=>iteR (andR (Nat.ble wr st) (Nat.beq s sz)) (qb2 (Nat.add off l) fun j=>qb2 (Nat.sub h l) fun n=>c (.arr a j n st)) false
  | _=>false))) false)
 | _=>false
theorem qm1{s:Bool}{sz:Nat}{d:V}{lo hi:Option Int}{ts:TS}{S:St}{c:V→Bool}(hs:ts.Abs S)(h:slcR s sz d lo hi ts c=true):
  ∃r,(match s,d with
   | true,.str b=>(qbJ S sz (.str b) lo hi).map fun r=>(r,S)
   | false,.sl ..|false,.arr ..=>(qbJ S sz d lo hi).map fun r=>(r,S)
   | _,_=>none)=some (r,S)∧c r=true:=by
 unfold slcR at h;split at h
 ·obtain ⟨rfl,h0⟩:=qao h;obtain ⟨l,h1,h2⟩:=qbU h0;obtain ⟨r,h3,h4⟩:=qbU h2;obtain ⟨h5,h6⟩:=qao h4;obtain ⟨q1,q2⟩:=qax h5;rw[qg4] at h3 q2;have q1:=qaQ q1;have q2:=qaQ q2;rw[qm8] at h6;refine ⟨_,?_,h6⟩;simp only[qbJ];simp only[Int.ofNat_zero] at h1;rw[show (lo.getD 0)=(l:Int) from h1,h3,if_pos ⟨by omega,by omega,by omega⟩];simp
 ·rw[qaZ] at h;split at h
  ·cases h
  rename_i hs';simp only[qu9] at hs';subst hs';obtain ⟨l,h1,h2⟩:=qbU h;obtain ⟨r,h3,h4⟩:=qbU h2;obtain ⟨h5,h6⟩:=qao h4;obtain ⟨q1,h7⟩:=qax h5;obtain ⟨q2,q3⟩:=qax h7;rw[qbz] at h3 q2 h6;rw[qdo] at q3;rw[qc0,qc5,qex] at h6;have q1:=qaQ q1;have q2:=qaQ q2;refine ⟨_,?_,h6⟩;simp only[qbJ];simp only[Int.ofNat_zero] at h1;rw[show (lo.getD 0)=(l:Int) from h1,h3,if_pos ⟨by omega,by omega,by omega,by simpa only[qbZ,qeF] using q3⟩];simp only[qtU,qvk,qeF];congr 4;rw[qui];simp;omega
 ·rw[qaZ] at h;split at h
  ·cases h
  rename_i hs';simp only[qu9] at hs';subst hs';obtain ⟨l,h1,h2⟩:=qbU h;obtain ⟨r,h3,h4⟩:=qbU h2;obtain ⟨h5,h6⟩:=qao h4;obtain ⟨q1,q2⟩:=qax h5;have q1:=qaQ q1;have q2:=qaQ q2;simp only[Int.ofNat_zero] at h1;simp only[qbJ];rw[show (lo.getD 0)=(l:Int) from h1,h3,if_pos ⟨by omega,by omega,by omega⟩];rw[qaZ] at h6;split at h6
  ·rename_i hz;have:=qaL hz;subst this;exact ⟨_,by rw[if_pos (by simp)];simp,h6⟩
  ·rename_i hz;rw[if_neg (by intro hh;apply hz;rw[qdC];omega)];rw[qaZ] at h6;split at h6
   ·rename_i he;have:=qaL he;subst this;exact ⟨_,by rw[if_pos rfl];rfl,h6⟩
   ·rename_i he;rw[if_neg (by intro hh;apply he;rw[qdC];omega)];obtain ⟨o,k1,k2⟩:=TS.get_spec hs h6;split at k2 <;> try cases k2
    have k1:=qeR k1;obtain ⟨k3,k4⟩:=qao k2;obtain ⟨k5,k6⟩:=qax k3;simp only[qbu] at k4;refine ⟨_,?_,k4⟩;simp only[k1];rw[if_pos ⟨qaQ k5,qaL k6⟩];simp
 ·cases h
def qio(o:Option Opd)(tr:TE)(c:Option Int→Bool):Bool:=Option.rec (c none) (fun x=>opd x tr fun v=>intR v fun n=>c (some n)) o
theorem qeU{tr:TE}{e:Env}(ht:tr.sub e){o:Option Opd}{c:Option Int→Bool}(h:qio o tr c=true):∃r,qfJ e o=some r∧c r=true:=by
 cases o with
 | none=>exact ⟨none,rfl,h⟩
 | some x=>
  obtain ⟨v,h1,h2⟩:=qau (x:=x) (c:=fun v=>intR v fun n=>c (some n)) ht h;obtain ⟨k,n,rfl,h3⟩:=qcm h2;exact ⟨some n,by simp only[qfJ,h1],h3⟩
def qsG(s:Bool)(v:V)(c:V→Bool):Bool:=
 match v with
 | .str b=>iteR s (c (.int .i64 (Int.ofNat (qiv b)))) false
 | .sl _ xs=>iteR s false (c (.int .i64 (Int.ofNat (lenR xs))))
 | .arr _ _ n _=>iteR s false (c (.int .i64 (Int.ofNat n)))
 | _=>false
def qiI(kd:KeyKd)(a b:V):Option Bool:=
 match a with
 | .str x=>match b with
  | .str y=>KeyKd.rec (some (qdk x y)) (fun _=>none) kd
  | _=>none
 | a=>qfY kd a b
theorem qm6(kd:KeyKd)(a b:V):qiI kd a b=qfY kd a b:=by
 unfold qiI;split
 ·split
  ·cases kd
   ·show some (qdk _ _)=_;rw[qdk,qdW];rfl
   ·rfl
  ·rename_i hb;cases kd <;> cases b <;> first|rfl|exact absurd rfl (hb _)
 ·rfl
def qdF(kd:KeyKd)(k:V)(es:List (V×V)):Nat→Option (Option (Nat×V)):=List.rec (motive:=fun _=>Nat→Option (Option (Nat×V))) (fun _=>some none)
 (fun p _ ih i=>Option.rec none (fun b=>Bool.rec (ih (Nat.succ i)) (some (some (i,p.2))) b) (qiI kd k p.1)) es
theorem qc3(kd:KeyKd)(k:V):∀(es:List (V×V)) (i:Nat),qdF kd k es i=qcq kd k es i
 | [],i=>rfl
 | (k',v)::es,i=>by
  show (Option.rec none (fun b=>Bool.rec (qdF kd k es (Nat.succ i)) (some (some (i,v))) b) (qiI kd k k'):Option (Option (Nat×V)))=_;rw[qm6,qc3 kd k es];simp only[qcq]
  cases qfY kd k k' with
  | none=>rfl
  | some b=>cases b <;> rfl
def qq2(kd:KeyKd)(z:V)(ok:Bool)(x k:V)(ts:TS)(c:V→Bool):Bool:=
 let fin (es:List (V×V)):Bool:=optR (qdF kd k es 0) fun r=>Option.rec (c (iteR ok (.tup [z,.bool false]) z)) (fun p=>c (iteR ok (.tup [p.2,.bool true]) p.2)) r
 iteR (qf1 kd k) (match x with
  | .nilmap=>fin []
  | .map l=>ts.get l fun o=>match o with
   | .map es _ _=>fin es
   | _=>false
  | _=>false) false
theorem qj3{kd:KeyKd}{z:V}{ok:Bool}{x k:V}{ts:TS}{S:St}{c:V→Bool}(hs:ts.Abs S)(h:qq2 kd z ok x k ts c=true):∃r,lkpV S kd z ok x k=some r∧c r=true:=by
 unfold qq2 at h;obtain ⟨h1,h2⟩:=qao h
 have fin:∀es,qnu S x=some es→(optR (qdF kd k es 0) fun r=>Option.rec (c (iteR ok (.tup [z,.bool false]) z)) (fun p=>c (iteR ok (.tup [p.2,.bool true]) p.2)) r)=true→∃r,lkpV S kd z ok x k=some r∧c r=true:=by
  intro es hm hf;obtain ⟨r,g1,g2⟩:=qaB hf;rw[qc3] at g1;simp only[lkpV];rw[if_pos h1,hm];simp only[g1]
  cases r with
  | none=>exact ⟨_,rfl,by rw[←qaZ];exact g2⟩
  | some p=>exact ⟨_,rfl,by rw[←qaZ];exact g2⟩
 split at h2
 ·exact fin [] rfl h2
 ·obtain ⟨o,k1,k2⟩:=TS.get_spec hs h2;split at k2 <;> try cases k2
  have k1:=qgn k1;exact fin _ (by simp only[qnu,k1]) k2
 ·cases h2
def qqK(kd:KeyKd)(x k v:V)(ts:TS)(c:TS→Bool):Bool:=
 iteR (qf1 kd k) (match x with
  | .map l=>ts.get l fun o=>match o with
   | .map es bs ck=>optR (qdF kd k es 0) fun r=>Option.rec (c (ts.set l (.map (appR es [(k,v)]) (appR bs [ck]) (Nat.succ ck)))) (fun p=>c (ts.set l (.map (setR (k,v) es p.1) bs ck))) r
   | _=>false
  | _=>false) false
theorem qkm{kd:KeyKd}{x k v:V}{ts:TS}{S:St}{c:TS→Bool}(hs:ts.Abs S)(h:qqK kd x k v ts c=true):∃S' ts',mupS S kd x k v=some S'∧ts'.Abs S'∧c ts'=true:=by
 unfold qqK at h;obtain ⟨h1,h2⟩:=qao h;split at h2 <;> try cases h2
 obtain ⟨o,k1,k2⟩:=TS.get_spec hs h2;split at k2 <;> try cases k2
 have k1:=qgn k1;obtain ⟨r,g1,g2⟩:=qaB k2;rw[qc3] at g1;simp only[mupS];rw[if_pos h1];simp only[k1,g1]
 cases r with
 | none=>exact ⟨_,_,rfl,TS.set_abs hs k1,by rw[←qbm,←qbm];exact g2⟩
 | some p=>exact ⟨_,_,rfl,TS.set_abs hs k1,by rw[←qh2];exact g2⟩
def qrn(x:V)(ts:TS)(c:V→TS→Bool):Bool:=
 match x with
 | .map lm=>ts.get lm fun o=>match o with
  | .map _ _ ck=>qb2 ts.len fun n=>c (.ptr n 0 0 0) (TS.push ⟨n,ts.tr⟩ (.iter lm ck [] ck))
  | _=>false
 | _=>false
theorem qku{x:V}{ts:TS}{S:St}{c:V→TS→Bool}(hs:ts.Abs S)(h:qrn x ts c=true):∃r S' ts',rngS S x=some (r,S')∧ts'.Abs S'∧c r ts'=true:=by
 unfold qrn at h;split at h <;> try cases h
 obtain ⟨o,k1,k2⟩:=TS.get_spec hs h;split at k2 <;> try cases k2
 have k1:=qgn k1;rw[qbu] at k2;exact ⟨_,_,_,by simp only[rngS,k1];rw[hs.1],TS.push_abs hs,k2⟩
def memR(b:Nat)(l:List Nat):Bool:=List.rec false (fun x _ ih=>Bool.rec ih true (Nat.beq b x)) l
theorem qiA(b:Nat):∀l:List Nat,memR b l=l.contains b
 | []=>rfl
 | x::l=>by
  show (Bool.rec (memR b l) true (Nat.beq b x):Bool)=_;rw[qiA b l,List.contains_cons,qeF];cases (b==x) <;> rfl
def zipR{α β:Type}(l:List α):List β→List (α×β):=List.rec (motive:=fun _=>List β→List (α×β)) (fun _=>[]) (fun x _ ih m=>List.rec [] (fun y ys _=>(x,y)::ih ys) m) l
theorem qh8{α β:Type}:∀(l:List α) (m:List β),zipR l m=l.zip m
 | [],m=>rfl
 | x::l,[]=>rfl
 | x::l,y::m=>by rw[List.zip_cons_cons,←qh8 l m];rfl
def qgE{α:Type}(f:α→Bool)(l:List α):List α:=List.rec [] (fun x _ ih=>Bool.rec ih (x::ih) (f x)) l
theorem qgs{α:Type}(f:α→Bool):∀l:List α,qgE f l=l.filter f
 | []=>rfl
 | x::l=>by
  show (Bool.rec (qgE f l) (x::qgE f l) (f x):List α)=_;rw[qgs f l];cases hf:f x
  ·rw[List.filter_cons_of_neg (by simp[hf])]
  ·rw[List.filter_cons_of_pos hf]
def qnD(p:V)(ts:TS)(c:V→TS→Bool):Bool:=
 match p with
 | .ptr l i off st=>iteR (andR (Nat.beq i 0) (andR (Nat.beq off 0) (Nat.beq st 0))) (ts.get l fun o=>match o with
  | .iter lm since seen last=>ts.get lm fun m=>match m with
   | .map es bs ck=>iteR (andR (allR (fun b=>Nat.ble (Nat.succ b) since) bs) (Nat.ble since last)) (List.rec (c (.tup [.bool false]) ts)
    (fun q qs _=>allR (fun q=>c (.tup [.bool true,q.1.1,q.1.2]) (ts.set l (.iter lm since (appR seen [q.2]) ck))) (q::qs)) (qgE (fun q=>notR (memR q.2 seen)) (zipR es bs))) false
   | _=>false
  | _=>false) false
 | _=>false
theorem qkx{p:V}{ts:TS}{S:St}{c:V→TS→Bool}(hs:ts.Abs S)(h:qnD p ts c=true):nxtS S p≠[]∧∀q,q∈nxtS S p→∃ts',ts'.Abs q.2∧c q.1 ts'=true:=by
 unfold qnD at h;split at h <;> try cases h
 rename_i l i off st;obtain ⟨h0,h⟩:=qao h;obtain ⟨z1,h0⟩:=qax h0;obtain ⟨z2,z3⟩:=qax h0;have z1:=qaL z1;have z2:=qaL z2;have z3:=qaL z3;subst z1;subst z2;subst z3;obtain ⟨o,k1,k2⟩:=TS.get_spec hs h;split at k2 <;> try cases k2
 rename_i lm since seen last;have k1:=qml k1;obtain ⟨m,g1,g2⟩:=TS.get_spec hs k2;split at g2 <;> try cases g2
 rename_i es bs ck;have g1:=qgn g1;obtain ⟨e1,e2⟩:=qao g2;obtain ⟨e3,e4⟩:=qax e1;rw[qdo] at e3;have e4:=qaQ e4
 have hall:(bs.all fun b=>decide (b<since))=true:=by
  simp only[qtY,decide_eq_true_eq] at e3 ⊢;exact fun b hb=>qaQ (e3 b hb)
 have hf:(fun q:(V×V)×Nat=>notR (memR q.2 seen))=fun q=>!seen.contains q.2:=by
  funext q;rw[qes,qiA]
 rw[qgs,qh8,hf] at e2;simp only[nxtS,k1,g1];rw[if_pos ⟨hall,e4⟩]
 cases hq:(es.zip bs).filter fun q=>!seen.contains q.2 with
 | nil=>
  rw[hq] at e2;exact ⟨by simp,fun q hq=>by rw[quH] at hq;subst hq;exact ⟨ts,hs,e2⟩⟩
 | cons q0 qs=>
  rw[hq] at e2;have e2:allR (fun q:(V×V)×Nat=>c (.tup [.bool true,q.1.1,q.1.2]) (ts.set l (.iter lm since (appR seen [q.2]) ck))) (q0::qs)=true:=e2;rw[qdo,qtY] at e2;refine ⟨by simp,fun q hq=>?_⟩;obtain ⟨q',hq',rfl⟩:=qt3.1 hq;have:=e2 q' hq';rw[qbm] at this;exact ⟨_,TS.set_abs hs k1,this⟩
def qrl{α:Type}(f:α→Bool)(l:List α):Option α:=List.rec none (fun x _ ih=>Bool.rec ih (some x) (f x)) l
theorem qjE{α:Type}(f:α→Bool):∀l:List α,qrl f l=l.find? f
 | []=>rfl
 | x::l=>by
  show (Bool.rec (qrl f l) (some x) (f x):Option α)=_;rw[qjE f l,List.find?_cons];cases f x <;> rfl
def qlv(l:List Nat):Bool:=List.rec true (fun x xs ih=>Bool.rec ih false (memR x xs)) l
theorem qe9:∀{l:List Nat},qlv l=true→l.Nodup
 | [],_=>List.nodup_nil
 | x::xs,h=>by
  have h':(Bool.rec (qlv xs) false (memR x xs):Bool)=true:=h
  cases hm:memR x xs with
  | true=>rw[hm] at h';cases h'
  | false=>
   rw[hm] at h';rw[qiA] at hm;exact List.nodup_cons.2 ⟨by simpa using hm,qe9 h'⟩
def qp2(l:List Nat):Option Nat:=List.rec (motive:=fun _=>Option Nat→Option Nat) (fun d=>d) (fun x _ ih _=>ih (some x)) l none
theorem qji:∀(l:List Nat) (d:Option Nat),(List.rec (motive:=fun _=>Option Nat→Option Nat) (fun d=>d) (fun x _ ih _=>ih (some x)) l d:Option Nat)=match l.getLast? with|some x=>some x|none=>d
 | [],d=>rfl
 | [x],d=>rfl
 | x::y::l,d=>by
  show (List.rec (motive:=fun _=>Option Nat→Option Nat) (fun d=>d) (fun x _ ih _=>ih (some x)) (y::l) (some x):Option Nat)=_;rw[qji (y::l),qvo]
theorem qon(l:List Nat):qp2 l=l.getLast?:=by
 unfold qp2;rw[qji];cases l.getLast? <;> rfl
def qq1(p:V)(ts:TS)(c:V→Bool):Bool:=
 match p with
 | .ptr l i off st=>iteR (andR (Nat.beq i 0) (andR (Nat.beq off 0) (Nat.beq st 0))) (ts.get l fun o=>match o with
  | .iter lm _ seen last=>ts.get lm fun m=>match m with
   | .map es bs ck=>iteR (andR (Nat.beq ck last) (qlv bs)) (optR (qp2 seen) fun b=>optR (qrl (fun q=>Nat.beq q.2 b) (zipR es bs)) fun q=>c (.tup [q.1.1,q.1.2])) false
   | _=>false
  | _=>false) false
 | _=>false
theorem qkd{p:V}{ts:TS}{S:St}{c:V→Bool}(hs:ts.Abs S)(h:qq1 p ts c=true):∃r,entS S p=some r∧c r=true:=by
 unfold qq1 at h;split at h <;> try cases h
 rename_i l i off st;obtain ⟨h0,h⟩:=qao h;obtain ⟨z1,h0⟩:=qax h0;obtain ⟨z2,z3⟩:=qax h0;have z1:=qaL z1;have z2:=qaL z2;have z3:=qaL z3;subst z1;subst z2;subst z3;obtain ⟨o,k1,k2⟩:=TS.get_spec hs h;split at k2 <;> try cases k2
 have k1:=qml k1;obtain ⟨m,g1,g2⟩:=TS.get_spec hs k2;split at g2 <;> try cases g2
 have g1:=qgn g1;obtain ⟨e1,e2⟩:=qao g2;obtain ⟨e3,e4⟩:=qax e1;have e3:=qaL e3;obtain ⟨b,e5,e6⟩:=qaB e2;obtain ⟨q,e7,e8⟩:=qaB e6;rw[qon] at e5;rw[qjE,qh8] at e7;have hf:∀b:Nat,(fun q:(V×V)×Nat=>Nat.beq q.2 b)=fun q=>q.2==b:=fun b=>by funext q;exact qeF _ _
 rw[hf] at e7;refine ⟨_,?_,e8⟩;simp only[entS,k1,g1];rw[if_pos ⟨e3,qe9 e4⟩];simp only[e5,e7]
def qjG{α:Type}(l:List α):Nat→List α:=List.rec (motive:=fun _=>Nat→List α) (fun _=>[]) (fun x xs ih n=>Nat.rec xs (fun m _=>x::ih m) n) l
theorem qfC{α:Type}:∀(l:List α) (n:Nat),qjG l n=l.eraseIdx n
 | [],n=>by simp[qjG]
 | x::xs,0=>rfl
 | x::xs,n+1=>by rw[List.eraseIdx_cons_succ,←qfC xs n];rfl
def qrO(kd:KeyKd)(x k:V)(ts:TS)(c:TS→Bool):Bool:=
 iteR (qf1 kd k) (match x with
  | .map l=>ts.get l fun o=>match o with
   | .map es bs ck=>optR (qdF kd k es 0) fun r=>Option.rec (c (ts.set l (.map es bs ck))) (fun p=>c (ts.set l (.map (qjG es p.1) (qjG bs p.1) ck))) r
   | _=>false
  | _=>false) false
theorem qkC{kd:KeyKd}{x k:V}{ts:TS}{S:St}{c:TS→Bool}(hs:ts.Abs S)(h:qrO kd x k ts c=true):∃S' ts',delS S kd x k=some S'∧ts'.Abs S'∧c ts'=true:=by
 unfold qrO at h;obtain ⟨h1,h2⟩:=qao h;split at h2 <;> try cases h2
 obtain ⟨o,k1,k2⟩:=TS.get_spec hs h2;split at k2 <;> try cases k2
 have k1:=qgn k1;obtain ⟨r,g1,g2⟩:=qaB k2;rw[qc3] at g1;simp only[delS];rw[if_pos h1];simp only[k1,g1]
 cases r with
 | none=>exact ⟨_,_,rfl,TS.set_abs hs k1,g2⟩
 | some p=>exact ⟨_,_,rfl,TS.set_abs hs k1,by rw[←qfC,←qfC];exact g2⟩
