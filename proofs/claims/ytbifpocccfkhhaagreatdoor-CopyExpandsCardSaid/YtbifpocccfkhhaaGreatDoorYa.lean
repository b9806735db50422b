/- A part. -/
import Derived.TacticsIn
import Derived.RangeFuncIn
set_option linter.all false
namespace Go.Proofs.YtbifpocccfkhhaaGreatDoor
open Go
theorem dl:type_of% @Nat.le_refl:=@Nat.le_refl
theorem KT:type_of% @Option.isSome_iff_exists:=@Option.isSome_iff_exists
theorem br:type_of% @List.getElem?_eq_some_iff:=@List.getElem?_eq_some_iff
theorem dZ:type_of% @List.mem_of_getElem?:=@List.mem_of_getElem?
theorem kQ:type_of% @Array.getElem?_eq_some_iff:=@Array.getElem?_eq_some_iff
theorem js:type_of% @Nat.le_trans:=@Nat.le_trans
theorem pT:type_of% @Nat.lt_of_lt_of_le:=@Nat.lt_of_lt_of_le
theorem uk:type_of% @Array.getElem?_setIfInBounds_ne:=@Array.getElem?_setIfInBounds_ne
theorem xI:type_of% @Nat.lt_or_ge:=@Nat.lt_or_ge
theorem HC:type_of% @Array.getElem?_eq_none:=@Array.getElem?_eq_none
theorem xA:type_of% @Array.getElem?_push:=@Array.getElem?_push
theorem dh:type_of% @List.getElem?_append_left:=@List.getElem?_append_left
theorem bG:type_of% @List.getElem?_set_ne:=@List.getElem?_set_ne
theorem bO:type_of% @List.getElem?_set_self:=@List.getElem?_set_self
theorem qy:type_of% @List.length_nil:=@List.length_nil
theorem gq:type_of% @List.length_cons:=@List.length_cons
theorem EZ:type_of% @List.getElem?_cons_zero:=@List.getElem?_cons_zero
theorem TC:type_of% @Array.getElem?_setIfInBounds_self_of_lt:=@Array.getElem?_setIfInBounds_self_of_lt
theorem CH:type_of% @List.getElem?_cons_succ:=@List.getElem?_cons_succ
theorem HB:type_of% @Array.ext_getElem?:=@Array.ext_getElem?
theorem EN:type_of% @Array.getElem?_modify:=@Array.getElem?_modify
theorem Po:type_of% @List.length_eq_zero_iff:=@List.length_eq_zero_iff
theorem qx:type_of% @List.getElem?_take_of_lt:=@List.getElem?_take_of_lt
theorem qw:type_of% @List.getElem?_drop:=@List.getElem?_drop
theorem rQ:type_of% @List.getElem?_eq_none:=@List.getElem?_eq_none
theorem dY:type_of% @List.append_assoc:=@List.append_assoc
theorem cx:type_of% @List.getElem?_append_right:=@List.getElem?_append_right
theorem xF:type_of% @List.getElem_of_mem:=@List.getElem_of_mem
theorem dz:type_of% @List.getElem_mem:=@List.getElem_mem
theorem gG:type_of% @Option.bind_some:=@Option.bind_some
theorem vY:type_of% @Nat.mul_le_mul_right:=@Nat.mul_le_mul_right
theorem jH:type_of% @Nat.add_mul:=@Nat.add_mul
theorem jU:type_of% @Nat.add_assoc:=@Nat.add_assoc
theorem nl:type_of% @List.flatMap_cons:=@List.flatMap_cons
theorem mg:type_of% @Nat.zero_add:=@Nat.zero_add
theorem dx:type_of% @List.length_append:=@List.length_append
theorem KH:type_of% @List.getElem?_toArray:=@List.getElem?_toArray
theorem Ar:type_of% @Nat.add_zero:=@Nat.add_zero
theorem mf:type_of% @Bool.false_eq_true:=@Bool.false_eq_true
theorem Ks:type_of% @Bool.not_false:=@Bool.not_false
theorem fR:type_of% @List.all_eq_true:=@List.all_eq_true
theorem cT:type_of% @Bool.and_eq_true:=@Bool.and_eq_true
theorem yX:type_of% @List.mem_flatMap:=@List.mem_flatMap
theorem cU:type_of% @List.mem_append:=@List.mem_append
theorem OV:type_of% @Array.append_assoc:=@Array.append_assoc
theorem Cf:type_of% @Array.getElem?_append_left:=@Array.getElem?_append_left
theorem J9:type_of% @Array.getElem?_append_right:=@Array.getElem?_append_right
theorem HD:type_of% @Array.toList_inj:=@Array.toList_inj
theorem uD:type_of% @List.foldl_cons:=@List.foldl_cons
theorem nK:type_of% @List.map_nil:=@List.map_nil
theorem cQ:type_of% @List.map_cons:=@List.map_cons
theorem yT:type_of% @Array.length_toList:=@Array.length_toList
theorem OW:type_of% @Array.foldl_toList:=@Array.foldl_toList
theorem vW:type_of% @List.mapM_cons:=@List.mapM_cons
theorem wc:type_of% @Option.bind_eq_bind:=@Option.bind_eq_bind
theorem fG:type_of% @Option.map_some:=@Option.map_some
theorem dU:type_of% @List.mem_cons:=@List.mem_cons
theorem dS:type_of% @List.getElem?_map:=@List.getElem?_map
theorem ep:type_of% @Option.map_eq_some_iff:=@Option.map_eq_some_iff
theorem dR:type_of% @List.cons_append:=@List.cons_append
theorem Ak:type_of% @List.all_cons:=@List.all_cons
theorem KO:type_of% @List.size_toArray:=@List.size_toArray
theorem cY:type_of% @List.mem_map:=@List.mem_map
theorem bX:type_of% @List.getElem?_eq_getElem:=@List.getElem?_eq_getElem
theorem KR:type_of% @Option.getD_none:=@Option.getD_none
theorem HQ:type_of% @Option.getD_some:=@Option.getD_some
theorem PD:type_of% @Option.isSome_none:=@Option.isSome_none
theorem fS:type_of% @Nat.zero_le:=@Nat.zero_le
theorem E6:type_of% @List.mem_of_mem_take:=@List.mem_of_mem_take
theorem KL:type_of% @List.mem_of_mem_drop:=@List.mem_of_mem_drop
theorem KG:type_of% @List.getElem?_take:=@List.getElem?_take
theorem eR:type_of% @Bool.eq_iff_iff:=@Bool.eq_iff_iff
theorem KE:type_of% @List.eq_nil_of_length_eq_zero:=@List.eq_nil_of_length_eq_zero
theorem Ko:type_of% @Array.getElem?_toList:=@Array.getElem?_toList
theorem vV:type_of% @List.ext_getElem?:=@List.ext_getElem?
theorem Ci:type_of% @Array.getElem?_map:=@Array.getElem?_map
theorem KQ:type_of% @Nat.mod_eq_of_lt:=@Nat.mod_eq_of_lt
theorem bQ:type_of% @List.length_map:=@List.length_map
theorem pS:type_of% @List.mem_map_of_mem:=@List.mem_map_of_mem
theorem oY:type_of% @List.getElem?_of_mem:=@List.getElem?_of_mem
theorem qW:type_of% @List.mem_filter:=@List.mem_filter
theorem E3:type_of% @List.getElem?_zip_eq_some:=@List.getElem?_zip_eq_some
theorem sZ:type_of% @List.mem_singleton:=@List.mem_singleton
theorem KJ:type_of% @List.mem_of_find?_eq_some:=@List.mem_of_find?_eq_some
theorem E5:type_of% @List.mem_cons_self:=@List.mem_cons_self
theorem uE:type_of% @List.mem_cons_of_mem:=@List.mem_cons_of_mem
theorem CB:type_of% @Bool.not_eq_true':=@Bool.not_eq_true'
theorem OY:type_of% @Bool.and_eq_false_iff:=@Bool.and_eq_false_iff
theorem xJ:type_of% @Option.bind_eq_some_iff:=@Option.bind_eq_some_iff
theorem yY:type_of% @List.not_mem_nil:=@List.not_mem_nil
theorem OZ:type_of% @Bool.true_eq_false:=@Bool.true_eq_false
theorem KU:type_of% @Option.map_map:=@Option.map_map
theorem An:type_of% @List.countP_cons:=@List.countP_cons
theorem E7:type_of% @List.mem_range:=@List.mem_range
theorem CC:type_of% @Bool.or_eq_true:=@Bool.or_eq_true
theorem Am:type_of% @List.any_eq_true:=@List.any_eq_true
theorem dN:type_of% @List.take_add_one:=@List.take_add_one
theorem HM:type_of% @List.getElem?_inj:=@List.getElem?_inj
theorem qA:type_of% @Nat.le_of_ble_eq_true:=@Nat.le_of_ble_eq_true
theorem KP:type_of% @List.zip_cons_cons:=@List.zip_cons_cons
theorem Pq:type_of% @List.reverse_cons:=@List.reverse_cons
theorem xE:type_of% @List.drop_eq_getElem_cons:=@List.drop_eq_getElem_cons
theorem HK:type_of% @List.drop_eq_nil_of_le:=@List.drop_eq_nil_of_le
theorem EU:type_of% @Int.toNat_natCast:=@Int.toNat_natCast
theorem Cj:type_of% @Bool.not_eq_true:=@Bool.not_eq_true
theorem EY:type_of% @List.find?_cons:=@List.find?_cons
theorem uF:type_of% @List.nodup_nil:=@List.nodup_nil
theorem Pn:type_of% @List.getLast?_cons_cons:=@List.getLast?_cons_cons
theorem ig:type_of% @List.nil_append:=@List.nil_append
theorem nJ:type_of% @List.map_map:=@List.map_map
theorem vT:type_of% @ByteArray.ext:=@ByteArray.ext
theorem xz:type_of% @Array.ext':=@Array.ext'
theorem rO:type_of% @Bool.true_and:=@Bool.true_and
theorem HO:type_of% @List.nodup_append:=@List.nodup_append
theorem Pm:type_of% @List.getElem?_set:=@List.getElem?_set
theorem iP:type_of% @Option.toList_some:=@Option.toList_some
theorem uz:type_of% @List.foldl_append:=@List.foldl_append
theorem mJ:type_of% @List.take_of_length_le:=@List.take_of_length_le
theorem HN:type_of% @List.mem_append_right:=@List.mem_append_right
theorem E4:type_of% @List.mem_append_left:=@List.mem_append_left
theorem pR:type_of% @List.append_nil:=@List.append_nil
theorem CJ:type_of% @List.sizeOf_lt_of_mem:=@List.sizeOf_lt_of_mem
theorem CG:type_of% @List.drop_zero:=@List.drop_zero
theorem gu:type_of% @List.take_length:=@List.take_length
theorem rR:type_of% @List.map_congr_left:=@List.map_congr_left
theorem qY:type_of% @List.take_append_drop:=@List.take_append_drop
theorem EX:type_of% @List.any_append:=@List.any_append
theorem KI:type_of% @List.map_take:=@List.map_take
theorem qz:type_of% @List.length_take:=@List.length_take
theorem KD:type_of% @List.all_append:=@List.all_append
theorem cJ:type_of% @List.map_append:=@List.map_append
theorem qX:type_of% @List.mem_iff_getElem?:=@List.mem_iff_getElem?
theorem HJ:type_of% @List.append_inj:=@List.append_inj
theorem KF:type_of% @List.flatMap_append:=@List.flatMap_append
theorem E8:type_of% @Nat.add_sub_cancel_left:=@Nat.add_sub_cancel_left
theorem T8:type_of% @List.dropLast_concat_getLast:=@List.dropLast_concat_getLast
theorem yW:type_of% @List.find?_append:=@List.find?_append
theorem xG:type_of% @List.length_set:=@List.length_set
theorem HL:type_of% @List.find?_eq_none:=@List.find?_eq_none
theorem T9:type_of% @List.getElem?_eq_none_iff:=@List.getElem?_eq_none_iff
theorem Ao:type_of% @List.range'_append_1:=@List.range'_append_1
theorem qu:type_of% @List.filter_append:=@List.filter_append
theorem nh:type_of% @Bool.or_assoc:=@Bool.or_assoc
theorem Kq:type_of% @Bool.false_and:=@Bool.false_and
theorem ni:type_of% @Bool.or_false:=@Bool.or_false
theorem Kr:type_of% @Bool.false_or:=@Bool.false_or
theorem KN:type_of% @List.pairwise_cons:=@List.pairwise_cons
theorem vS:type_of% @Bool.or_eq_false_iff:=@Bool.or_eq_false_iff
theorem ak:type_of% @if_pos:=@if_pos
theorem au:type_of% @if_neg:=@if_neg
theorem mn:type_of% @congrArg:=@congrArg
theorem pf:type_of% @decide_eq_true:=@decide_eq_true
theorem e9:type_of% @decide_eq_false:=@decide_eq_false
theorem dT:type_of% @decide_eq_true_eq:=@decide_eq_true_eq
def oM{p:Prop}(h:p:=by omega):p:=h
def sM{p:Prop}(h:p:=by simp):p:=h
def cz{n:Nat}:n<=n:=dl n
abbrev aG:=Program
abbrev aP:=World
abbrev cC:=TypeId
def eX{α:Sort _}(a:α):∃x,x=a:=⟨a,rfl⟩
abbrev Bz:=ByteArray
abbrev Np:=Nat->Prop
inductive V where
 |hG
 |bool (b:Bool)
 |int (k:IntKind) (n:Int)
 |str (s:Bz)
 |cu
 |ptr (l i off st:Nat)
 |dE (g off:Nat)
 |cq (v:V) (off:Nat)
 |sl (x:Bool) (xs:List V)
 |arr (l off len st:Nat)
 |dI
 |map (l:Nat)
 |fn (f:Fn) (first caps:List V)
 |bY
 |iface (t:cC) (v:V)
 |eB
 |dc (l:Nat)
 |agg (cs:List V)
 |aV (vs:List V)
 deriving Inhabited
def V.cells:V->List V
 |.agg cs=>cs
 |v=>[v]
structure qq where
 b:Nat
 N:Nat
 sz:Nat
structure En where
 I:Nat->Nat->Option Value
 ρ:Nat->Nat->Option qq
inductive VR(E:En):V->Value->Prop
 |hG (u:Value):VR E .hG u
 |bool (b:Bool):VR E (.bool b) (.bool b)
 |int (k:IntKind) (n:Int):VR E (.int k n) (.int k n)
 |str (s:Bz):VR E (.str s) (.string s)
 |cu:VR E .cu (.pointer none)
 |ptr {l st:Nat} {x:qq} (i off:Nat) (h:E.ρ l st=some x):VR E (.ptr l i off st) (.pointer (some ⟨x.b,i*x.sz+off,none⟩))
 |dE (g off:Nat):VR E (.dE g off) (.pointer (some ⟨g,off,none⟩))
 |cq {v:V} {b o:Nat} (off:Nat) (hI:∀j,j<v.cells.length->(E.I b (o+j)).isSome=true) (hv:∀(j:Nat) (c':V) (c:Value),v.cells[j]?=some c'->E.I b (o+j)=some c->VR E c' c):
  VR E (.cq v off) (.pointer (some ⟨b,o+off,none⟩))
 |slnil (x:Bool):VR E (.sl x []) (.slice none 0 0)
 |pL (x:Bool) (a:Addr):VR E (.sl x []) (.slice (some a) 0 0)
 |sl {x:Bool} {xs:List V} {b o cap sz:Nat} (hc:xs.length<=cap) (hx:x=true->cap=xs.length) (hs:∀v,v∈xs->v.cells.length=sz)
  (hI:∀i j,i<xs.length->j<sz->(E.I b (o+i*sz+j)).isSome=true)
  (hv:∀(i:Nat) (v:V) (j:Nat) (c':V) (c:Value),xs[i]?=some v->v.cells[j]?=some c'->E.I b (o+i*sz+j)=some c->VR E c' c):VR E (.sl x xs) (.slice (some ⟨b,o,none⟩) xs.length cap)
 |arr {l off len cap st:Nat} {x:qq} (h:E.ρ l st=some x) (hN:(off+cap)*x.sz<=x.N) (hc:len<=cap):VR E (.arr l off len st) (.slice (some ⟨x.b,off*x.sz,none⟩) len cap)
 |dI:VR E .dI (.map none)
 |map {l:Nat} {x:qq} (h:E.ρ l 0=some x):VR E (.map l) (.map (some x.b))
 |fn {f:Fn} {fs cs:List V} {us ws:Array Value} (h1:fs.length=us.size) (h2:cs.length=ws.size) (g1:∀(i:Nat) (v:V) (u:Value),fs[i]?=some v->us[i]?=some u->VR E v u) (g2:∀(i:Nat) (v:V) (u:Value),cs[i]?=some v->ws[i]?=some u->VR E v u):
  VR E (.fn f fs cs) (.func f us ws)
 |bY:VR E .bY .nilFunc
 |iface {v:V} {u:Value} (t:cC) (h:VR E v u):VR E (.iface t v) (.iface t u)
 |eB:VR E .eB .nilIface
 |dc {l:Nat} {x:qq} (h:E.ρ l 0=some x):VR E (.dc l) (.func (.yield x.b) #[] #[])
 |agg {cs:List V} {us:Array Value} (h:cs.length=us.size) (g:∀(i:Nat) (v:V) (u:Value),cs[i]?=some v->us[i]?=some u->VR E v u):VR E (.agg cs) (.agg us)
 |aV {cs:List V} {us:Array Value} (h:cs.length=us.size) (g:∀(i:Nat) (v:V) (u:Value),cs[i]?=some v->us[i]?=some u->VR E v u):VR E (.aV cs) (.tuple us)
def En.le(E E':En):Prop:=(∀b o c,E.I b o=some c->E'.I b o=some c)/\∀l st x,E.ρ l st=some x->E'.ρ l st=some x
def En.le_refl(E:En):E.le E:=⟨λ_ _ _ h=>h,λ_ _ _ h=>h⟩
def Rz{E E':En}(h:E.le E'){b o:Nat}(hs:(E.I b o).isSome=true):(E'.I b o).isSome=true:=by
 obtain⟨c,hc⟩:=KT.1 hs;rw[h.1 b o c hc];rfl
def Pl{E E':En}(h:E.le E'){b o:Nat}{c:Value}(hs:(E.I b o).isSome=true)(hc:E'.I b o=some c):E.I b o=some c:=by
 obtain⟨d,hd⟩:=KT.1 hs;rw[h.1 b o d hd]at hc;rw[hd,hc]
def VR.mono{E E':En}(h:E.le E'){v:V}{u:Value}(r:VR E v u):VR E' v u:=by
 induction r with
 |hG u=>exact .hG u
 |bool b=>exact .bool b
 |int k n=>exact .int k n
 |str s=>exact .str s
 |cu=>exact .cu
 |ptr i off hr=>exact .ptr i off (h.2 _ _ _ hr)
 |dE g off=>exact .dE g off
 |cq off hI _ ih=>exact .cq off (λj hj=>Rz h (hI j hj)) (λj c' c hc hi=>ih j c' c hc (Pl h (hI j (br.1 hc).1) hi))
 |slnil x=>exact .slnil x
 |pL x a=>exact .pL x a
 |sl hc hx hs hI _ ih=>
  refine .sl hc hx hs (λi j hi hj=>Rz h (hI i j hi hj)) (λi v j c' c hv im hi=>ih i v j c' c hv im ?_);have h1:=(br.1 hv).1;have h2:=(br.1 im).1;rw[hs v (dZ hv)]at h2;exact Pl h (hI i j h1 h2) hi
 |arr hr hN hc=>exact .arr (h.2 _ _ _ hr) hN hc
 |dI=>exact .dI
 |map hr=>exact .map (h.2 _ _ _ hr)
 |fn h1 h2 _ _ ih1 ih2=>exact .fn h1 h2 ih1 ih2
 |bY=>exact .bY
 |iface t _ ih=>exact .iface t ih
 |eB=>exact .eB
 |dc hr=>exact .dc (h.2 _ _ _ hr)
 |agg hl _ ih=>exact .agg hl ih
 |aV hl _ ih=>exact .aV hl ih
abbrev ae:=List (Nat×V)
def ae.get:ae->Nat->Option V
 |[],_=>none
 |(k,v)::e,t=>if k=t then some v else ae.get e t
def ae.get_mem:∀{e:ae} {t:Nat} {v:V},e.get t=some v->(t,v)∈e
 |[],_,_,h=>by simp[ae.get]at h
 |(k,u)::e,t,v,h=>by
  simp only[ae.get]at h;split at h
  .rename_i hk;subst hk;cases h;simp
  .simp[ae.get_mem h]
def ae.put(e:ae)(d:Option Nat)(v:V):ae:=match d with|some t=>(t,v)::e|none=>e
def ae.keep(e:ae):List Nat->ae
 |[]=>[]
 |t::ts=>match e.get t with
  |some v=>(t,v)::ae.keep e ts
  |none=>ae.keep e ts
def jf(E:En)(e:ae)(tmps:Array Value):Prop:=∀t v,e.get t=some v->∃u,tmps[t]?=some u/\VR E v u
structure LI where
 st:LoopState
 dM:Option Code
 ps:List Nat
 cV:Code
 body:Code
 e:ae
 N:Nat
 deriving Inhabited
inductive Ob where
 |arr (xs:List V) (sz wr:Nat)
 |map (es:List (V×V)) (bs:List Nat) (ck:Nat)
 |iter (lm since:Nat) (seen:List Nat) (last:Nat)
 |dead
 |loop (i:LI)
 deriving Inhabited
abbrev St:=List Ob
def gQ(S:St)(l:Nat):Prop:=∃o,S[l]?=some o/\o≠.dead
def ES(E:En)(w:aP)(x:qq)(xs:List V)(n:Nat):Prop:=
 ∃cells t,w.heap[x.b]?=some (.cells cells t (0,0))/\cells.size=x.N/\n*x.sz<=x.N/\
  ∀i v,xs[i]?=some v->i<n->∀j c',v.cells[j]?=some c'->∃c,cells[i*x.sz+j]?=some c/\VR E c' c
def OR(E:En)(w:aP)(l:Nat):Ob->Prop
 |.arr xs sz wr=>(0<sz/\wr<=xs.length)/\(∀v,v∈xs->v.cells.length=sz)/\(∀st x,E.ρ l st=some x->wr<=st->st<=xs.length/\x.sz=sz/\ES E w x xs st)
 |.map es bs ck=>∃x entries,E.ρ l 0=some x/\w.heap[x.b]?=some (.map entries ck)/\es.length=entries.size/\bs=entries.toList.map (·.born)/\
  ∀(i:Nat) (k v:V) (e:MapEntry),es[i]?=some (k,v)->entries[i]?=some e->VR E k e.key/\VR E v e.val
 |.iter lm since seen last=>∃x y,E.ρ l 0=some x/\E.ρ lm 0=some y/\w.heap[x.b]?=some (.mapIter (some y.b) since seen.toArray last)
 |.dead=>True
 |.loop i=>∃x r,E.ρ l 0=some x/\w.heap[x.b]?=some (.loop r)/\r.state=i.st/\r.pending=i.dM/\r.params.toList=i.ps/\r.assign=i.cV/\r.body=i.body/\r.tmps.size=i.N/\jf E i.e r.tmps
def own(E:En)(S:St)(b:Nat):Prop:=∃l st x,gQ S l/\E.ρ l st=some x/\x.b=b
def IC(g off:Nat):Option (IntKind×Int):=
 if g=0/\off<256 then some (.u8,if off=9\/off=10\/off=11\/off=12\/off=13\/off=32 then 1 else 0) else if g=2/\off<20 then some (.u64,10^off) else none
def IB(g:Nat):Option (Array Value):=if g=2 then some (((List.range 20).map λi=>Value.int .u64 (((10^i:Nat):Int))).toArray) else none
def qpI{g:Nat}(h:IB g≠none):∃k n,IC g 0=some (k,n):=by
 unfold IB at h;split at h
 .rename_i hg;subst hg;exact⟨.u64,1,by simp[IC]⟩
 .exact absurd rfl h
def GL(E:En)(w:aP):Prop:=(∀g o k n,IC g o=some (k,n)->E.I g o=some (.int k n))/\∀g cs,IB g=some cs->∃t fz,w.heap[g]?=some (.cells cs t fz)
def GL.kL{E E':En}{w w':aP}(h:GL E w)(hI:∀b o c,E.I b o=some c->E'.I b o=some c)(hw:∀b cs t fz,w.heap[b]?=some (.cells cs t fz)->IB b≠none->w'.heap[b]?=w.heap[b]?):GL E' w':=
 ⟨λg o k n hg=>hI _ _ _ (h.1 g o k n hg),λg cs hg=>let ⟨t,fz,hh⟩:=h.2 g cs hg;⟨t,fz,(hw g cs t fz hh (by rw[hg];simp)).trans hh⟩⟩
def FW{w:aP}{b:Nat}{o:Obj}(h:w.heap[b]?=some o):b<w.heap.size:=(kQ.1 h).1
structure SR(E:En)(S:St)(w:World):Prop where
 gl:GL E w
 I:∀b o c,E.I b o=some c->w.cell? ⟨b,o,none⟩=some c
 fJ:∀l o,S[l]?=some o->OR E w l o
 jI:∀l st x,E.ρ l st=some x->l<S.length
 apart:∀b o,own E S b->E.I b o=none
 lt:∀b,own E S b->b<w.heap.size
 inj:∀l l' st bc x x',gQ S l->gQ S l'->E.ρ l st=some x->E.ρ l' bc=some x'->x.b=x'.b->l=l'
structure bT(n:Nat)(E:En)(S:St)(w:World)(E':En)(S':St)(w':World):Prop where
 size:w.heap.size<=w'.heap.size
 I:∀b o c,E.I b o=some c->E'.I b o=some c
 ρ:∀l st x,l<n->E.ρ l st=some x->E'.ρ l st=some x
 no:∀l,l<n->(∀st,E.ρ l st=none)->∀st,E'.ρ l st=none
 own:∀b,own E' S' b->own E S b\/w.heap.size<=b
 JD:∀b o c,E'.I b o=some c->E.I b o=some c\/Go.Proofs.YtbifpocccfkhhaaGreatDoor.own E S b\/w.heap.size<=b
 frame:∀b,b<w.heap.size->¬Go.Proofs.YtbifpocccfkhhaaGreatDoor.own E S b->w'.heap[b]?=w.heap[b]?
 out:(w'.output,w'.os)=(w.output,w.os)
def bT.refl(n:Nat)(E:En)(S:St)(w:aP):bT n E S w E S w:=
 ⟨dl _,λ_ _ _ h=>h,λ_ _ _ _ h=>h,λ_ _ h=>h,λ_ h=>.inl h,λ_ _ _ h=>.inl h,λ_ _ _=>rfl,rfl⟩
def bT.trans{n:Nat}{E E1 E2:En}{S S1 S2:St}{w w1 w2:aP}(h:bT n E S w E1 S1 w1)(g:bT n E1 S1 w1 E2 S2 w2):bT n E S w E2 S2 w2 where
 size:=js h.size g.size
 I b o c x:=g.I b o c (h.I b o c x)
 ρ l st x hl hx:=g.ρ l st x hl (h.ρ l st x hl hx)
 no l hl hx:=g.no l hl (h.no l hl hx)
 own b hb:=by
  rcases g.own b hb with hb|hb
  .exact h.own b hb
  .exact .inr (js h.size hb)
 JD b o c hc:=by
  rcases g.JD b o c hc with hc|hb|hb
  .exact h.JD b o c hc
  .exact .inr (h.own b hb)
  .exact .inr (.inr (js h.size hb))
 frame b hb hn:=by
  rw[g.frame b (pT hb h.size) (λho=>?_),h.frame b hb hn];rcases h.own b ho with ho|ho
  .exact hn ho
  .omega
 out:=g.out.trans h.out
def bT.less{n m:Nat}{E E':En}{S S':St}{w w':aP}(h:bT n E S w E' S' w')(hm:m<=n):bT m E S w E' S' w':=
 { h with ρ:=λl st x hl hx=>h.ρ l st x (pT hl hm) hx,no:=λl hl hx=>h.no l (pT hl hm) hx }
def bT.le{E E':En}{S S':St}{w w':aP}(h:bT S.length E S w E' S' w')(r:SR E S w):E.le E':=
 ⟨h.I,λl st x hx=>h.ρ l st x (r.jI l st x hx) hx⟩
def jf.mono{E E':En}{e:ae}{tmps:Array Value}(h:jf E e tmps)(g:E.le E'):jf E' e tmps:=
 λt v hv=>let ⟨u,hu,r⟩:=h t v hv;⟨u,hu,r.mono g⟩
def jf.put{E:En}{e:ae}{tmps:Array Value}(h:jf E e tmps){d:Nat}{v:V}{u:Value}(hd:d<tmps.size)(r:VR E v u):jf E (e.put (some d) v) (tmps.setIfInBounds d u):=by
 intro t v' hv;simp only[ae.put,ae.get]at hv;split at hv
 .rename_i hk;subst hk;cases hv;exact⟨u,by simp[hd],r⟩
 .rename_i hk;obtain⟨u',hu,r'⟩:=h t v' hv;exact⟨u',by rw[uk hk];exact hu,r'⟩
def ae.Qv{e:ae}:∀{ts:List Nat} {t:Nat} {v:V},(e.keep ts).get t=some v->e.get t=some v
 |[],_,_,h=>by simp[ae.keep,ae.get]at h
 |s::ts,t,v,h=>by
  simp only[ae.keep]at h;split at h
  .rename_i v' hv;simp only[ae.get]at h;split at h
   .rename_i hk;subst hk;cases h;exact hv
   .exact ae.Qv h
  .exact ae.Qv h
def jf.keep{E:En}{e:ae}{tmps:Array Value}(h:jf E e tmps)(ts:List Nat):jf E (e.keep ts) tmps:=λt v hv=>h t v (ae.Qv hv)
def yZ(m:Nat)(E:En)(S:St)(w:aP):List Deferred->Prop
 |[]=>True
 |d::ds=>(∃r,d.target=.collected r/\m<=r/\w.heap[r]?=some (.deferred (some []))/\¬own E S r/\∀d',d'∈ds->d'.target≠.collected r)/\yZ m E S w ds
def yZ.step{m n:Nat}{E E':En}{S S':St}{w w':aP}(h:bT n E S w E' S' w'):∀{ds:List Deferred},yZ m E S w ds->yZ m E' S' w' ds
 |[],_=>trivial
 |d::ds,⟨⟨r,h1,h2,h3,h4,h5⟩,hd⟩=>by
  have aB:r<w.heap.size:=(kQ.1 h3).1;refine⟨⟨r,h1,h2,(h.frame r aB h4).trans h3,λho=>?_,h5⟩,yZ.step h hd⟩;rcases h.own r ho with ho|ho
  .exact h4 ho
  .omega
def uH(m:Nat)(E:En)(S:St)(w:aP)(ds:List Deferred):Prop:=m<=w.heap.size/\yZ m E S w ds
def uH.step{m n:Nat}{E E':En}{S S':St}{w w':aP}{ds:List Deferred}(h:bT n E S w E' S' w')(g:uH m E S w ds):uH m E' S' w' ds:=
 ⟨js g.1 h.size,g.2.step h⟩
structure Rel(N:Nat)(n0 m0:Nat)(E:En)(e:ae)(S:St)(a:Act)(w:World):Prop where
 tmps:jf E e a.tmps
 size:a.tmps.size=N
 defers:uH m0 E S w a.defers
 base:n0<=S.length
 sr:SR E S w
@[simp] abbrev af(n:Int):V:=.int .i64 n
@[simp] abbrev ah(l:List V):V:=.sl false l
@[simp] abbrev ag(k:Nat):V:=.ptr k 0 0 1
@[simp] abbrev eD(k i:Nat):V:=.ptr k 0 i 1
@[simp] abbrev aJ(l:List V)(n:Nat):Option Ob:=some (.arr l n 1)
def En.at(E:En)(l st:Nat)(x:qq):En:={ E with ρ:=λl' bc=>if l'=l/\bc=st then some x else E.ρ l' bc }
def En.lay(E:En)(b:Nat)(cells:Array Value):En:={ E with I:=λb' o=>if b'=b then cells[o]? else E.I b' o }
def ES.mono{E E':En}{w w':aP}{x:qq}{xs:List V}{n:Nat}(h:ES E w x xs n)(g:E.le E')(hw:w'.heap[x.b]?=w.heap[x.b]?):ES E' w' x xs n:=by
 obtain⟨cells,t,h1,h2,h3,h4⟩:=h;refine⟨cells,t,hw.trans h1,h2,h3,λi v hv hi j c' hc=>?_⟩;obtain⟨c,lI,ri⟩:=h4 i v hv hi j c' hc;exact⟨c,lI,ri.mono g⟩
def OR.mono{E E':En}{w w':aP}{l:Nat}{o:Ob}(h:OR E w l o)(g:E.le E')(hb:∀st x,E'.ρ l st=some x->E.ρ l st=some x)
  (hw:∀st x,E.ρ l st=some x->w'.heap[x.b]?=w.heap[x.b]?):OR E' w' l o:=by
 cases o with
 |arr xs sz wr=>
  obtain⟨h0,h1,h2⟩:=h;refine⟨h0,h1,λst x hx sB=>?_⟩;obtain⟨a,b,c⟩:=h2 st x (hb st x hx) sB;exact⟨a,b,c.mono g (hw st x (hb st x hx))⟩
 |map es bs ck=>
  obtain⟨x,entries,h1,h2,h3,hb,h4⟩:=h;refine⟨x,entries,g.2 _ _ _ h1,(hw 0 x h1).trans h2,h3,hb,λi k v e hk he=>?_⟩;obtain⟨a,b⟩:=h4 i k v e hk he;exact⟨a.mono g,b.mono g⟩
 |iter lm since seen last=>
  obtain⟨x,y,h1,h2,h3⟩:=h;exact⟨x,y,g.2 _ _ _ h1,g.2 _ _ _ h2,(hw 0 x h1).trans h3⟩
 |dead=>trivial
 |loop i=>
  obtain⟨x,r,h1,h2,h3,h4,h5,h6,h7,h8,h9⟩:=h;exact⟨x,r,g.2 _ _ _ h1,(hw 0 x h1).trans h2,h3,h4,h5,h6,h7,h8,h9.mono g⟩
def zd{w w':aP}{b o:Nat}(h:w'.heap[b]?=w.heap[b]?):w'.cell? ⟨b,o,none⟩=w.cell? ⟨b,o,none⟩:=by
 unfold World.cell?;simp only[h]
def wE{w:aP}{b o:Nat}{c:Value}(h:w.cell? ⟨b,o,none⟩=some c):b<w.heap.size:=by
 unfold World.cell? at h;rcases xI b w.heap.size with hb|hb
 .exact hb
 .simp[HC hb]at h
def rB{w:aP}{o:Obj}{b:Nat}(h:b<w.heap.size):({ w with heap:=w.heap.push o }:aP).heap[b]?=w.heap[b]?:=by
 simp only[xA];rw[au oM]
def G3{w:aP}{o:Obj}:({ w with heap:=w.heap.push o }:aP).heap[w.heap.size]?=some o:=by
 simp
def SR.heap{E:En}{S:St}{w w':aP}(h:SR E S w)(hw:w'.heap=w.heap):SR E S w' where
 gl:=h.gl.kL (λ_ _ _ h=>h) (λb _ _ _ _ _=>by rw[hw])
 I b o c hc:=(zd (w:=w) (w':=w') (by rw[hw])).trans (h.I b o c hc)
 fJ l o ho:=(h.fJ l o ho).mono (En.le_refl E) (λ_ _ x=>x) (λ_ _ _=>by rw[hw])
 jI:=h.jI
 apart:=h.apart
 lt b hb:=by rw[hw];exact h.lt b hb
 inj:=h.inj
def bT.heap{E:En}{S:St}{w w':aP}(n:Nat)(hw:w'.heap=w.heap)(ho:(w'.output,w'.os)=(w.output,w.os)):bT n E S w E S w':=
 { bT.refl n E S w with size:=by rw[hw];exact dl _,own:=λ_ h=>.inl h,JD:=λ_ _ _ h=>.inl h,frame:=λ_ _ _=>by rw[hw],out:=ho }
def DX{S:St}{l:Nat}(h:gQ S l):l<S.length:=by
 obtain⟨o,ho,_⟩:=h;exact(br.1 ho).1
def Yg{S:St}{o:Ob}{l:Nat}(h:gQ (S++[o]) l):gQ S l\/l=S.length:=by
 obtain⟨p,hp,hd⟩:=h;rcases Nat.lt_trichotomy l S.length with hl|hl|hl
 .exact .inl ⟨p,by rw[dh hl]at hp;exact hp,hd⟩
 .exact .inr hl
 .have:=(br.1 hp).1;simp at this;omega
def ml{E:En}{l st:Nat}{x:qq}:(E.at l st x).ρ l st=some x:=by simp[En.at]
def wu{E:En}{l st l' bc:Nat}{x:qq}(h:l'≠l):(E.at l st x).ρ l' bc=E.ρ l' bc:=by simp[En.at,h]
def xR{E:En}{l st:Nat}{x:qq}(h:E.ρ l st=none):E.le (E.at l st x):=
 ⟨λ_ _ _ h=>h,λl' bc y hy=>by
  by_cases hk:l'=l/\bc=st
  .obtain⟨rfl,rfl⟩:=hk;rw[h]at hy;cases hy
  .simp[En.at,hk];exact hy⟩
def SR.new{E:En}{S:St}{w:aP}(h:SR E S w){o:Obj}{ob:Ob}{st N sz:Nat}
  (ho:OR (E.at S.length st ⟨w.heap.size,N,sz⟩) { w with heap:=w.heap.push o } S.length ob):
  SR (E.at S.length st ⟨w.heap.size,N,sz⟩) (S++[ob]) { w with heap:=w.heap.push o }/\
  bT S.length E S w (E.at S.length st ⟨w.heap.size,N,sz⟩) (S++[ob]) { w with heap:=w.heap.push o }:=by
 have cB:∀bc,E.ρ S.length bc=none:=λbc=>by
  cases hr:E.ρ S.length bc with
  |none=>rfl
  |some x=>exact absurd (h.jI _ _ _ hr) oM
 have hle:E.le (E.at S.length st ⟨w.heap.size,N,sz⟩):=xR (cB st)
 have dW:∀b,own (E.at S.length st ⟨w.heap.size,N,sz⟩) (S++[ob]) b->own E S b\/b=w.heap.size:=by
  rintro b ⟨l,bc,x,hl,hx,rfl⟩;by_cases hk:l=S.length
  .subst hk;by_cases hs:bc=st
   .subst hs;rw[ml]at hx;cases hx;exact .inr rfl
   .simp[En.at,hs,cB]at hx
  .rw[wu hk]at hx;exact .inl ⟨l,bc,x,(Yg hl).resolve_right hk,hx,rfl⟩
 refine⟨⟨h.gl.kL hle.1 (λb _ _ _ hb _=>rB (FW hb)),?_,?_,?_,?_,?_,?_⟩,⟨sM,hle.1,λl bc x _ hx=>hle.2 l bc x hx,λl hl hx bc=>by rw[wu oM];exact hx bc,λb hb=>(dW b hb).imp id (λe=>by omega),λb o c hc=>.inl hc,λb hb _=>rB hb,rfl⟩⟩
 .intro b o' c hc;have:=h.I b o' c hc;rw[zd (rB (wE this))];exact this
 .intro l o' hl;rcases Nat.lt_trichotomy l S.length with aB|IX|hgt
  .rw[dh aB]at hl;by_cases hd:o'=.dead
   .subst hd;trivial
   refine(h.fJ l o' hl).mono hle (λbc x hx=>by rw[wu oM]at hx;exact hx) (λbc x hx=>rB (h.lt _ ⟨l,bc,x,⟨o',hl,hd⟩,hx,rfl⟩))
  .subst IX;simp at hl;subst hl;exact ho
  .have:=(br.1 hl).1;simp at this;omega
 .intro l bc x hx;by_cases hk:l=S.length
  .subst hk;simp
  .rw[wu hk]at hx;have:=h.jI _ _ _ hx;simp;omega
 .intro b o' hb;rcases dW b hb with hb|rfl
  .exact h.apart b o' hb
  .cases hc:E.I w.heap.size o' with
   |none=>exact hc
   |some c=>exact absurd (wE (h.I _ _ _ hc)) oM
 .intro b hb;rcases dW b hb with hb|rfl
  .have:=h.lt b hb;simp;omega
  .simp
 .intro l l' fw lG x x' hl cj hx iG hb
  have key:∀l bc x,gQ (S++[ob]) l->(E.at S.length st ⟨w.heap.size,N,sz⟩).ρ l bc=some x->(l=S.length/\x.b=w.heap.size)\/(l≠S.length/\gQ S l/\E.ρ l bc=some x/\x.b<w.heap.size):=by
   intro l bc x hl hx;by_cases hk:l=S.length
   .subst hk;by_cases hs:bc=st
    .subst hs;rw[ml]at hx;cases hx;exact .inl ⟨rfl,rfl⟩
    .simp[En.at,hs,cB]at hx
   .rw[wu hk]at hx;have hl:=(Yg hl).resolve_right hk;exact .inr ⟨hk,hl,hx,h.lt _ ⟨l,bc,x,hl,hx,rfl⟩⟩
  rcases key l fw x hl hx with ⟨h1,h2⟩|⟨h1,h2,h3,h4⟩<;>rcases key l' lG x' cj iG with ⟨g1,g2⟩|⟨g1,g2,g3,g4⟩
  .omega
  .omega
  .omega
  .exact h.inj l l' fw lG x x' h2 g2 h3 g3 hb
def SR.lay{E:En}{S:St}{w:aP}(h:SR E S w)(cells:Array Value)(t:cC):
  SR (E.lay w.heap.size cells) S { w with heap:=w.heap.push (.cells cells t (0,0)) }/\E.le (E.lay w.heap.size cells)/\
  bT S.length E S w (E.lay w.heap.size cells) S { w with heap:=w.heap.push (.cells cells t (0,0)) }:=by
 have cB:∀o,E.I w.heap.size o=none:=λo=>by
  cases hc:E.I w.heap.size o with
  |none=>rfl
  |some c=>exact absurd (wE (h.I _ _ _ hc)) oM
 have hle:E.le (E.lay w.heap.size cells):=⟨λb o c hc=>by
  by_cases hb:b=w.heap.size
  .subst hb;rw[cB]at hc;cases hc
  .simp[En.lay,hb];exact hc,λ_ _ _ h=>h⟩
 refine⟨⟨h.gl.kL hle.1 (λb _ _ _ hb _=>rB (FW hb)),?_,?_,h.jI,?_,?_,h.inj⟩,hle,⟨sM,hle.1,λ_ _ _ _ hx=>hx,λ_ _ hx=>hx,λb hb=>.inl hb,?_,λb hb _=>rB hb,rfl⟩⟩
 .intro b o c hc;by_cases hb:b=w.heap.size
  .subst hb;simp only[En.lay,if_true]at hc;unfold World.cell?;simpa using hc
  .simp only[En.lay,hb,if_false]at hc;have:=h.I b o c hc;rw[zd (rB (wE this))];exact this
 .intro l o hl;by_cases hd:o=.dead
  .subst hd;trivial
  exact(h.fJ l o hl).mono hle (λ_ _ hx=>hx) (λbc x hx=>rB (h.lt _ ⟨l,bc,x,⟨o,hl,hd⟩,hx,rfl⟩))
 .intro b o hb;have h1:=h.lt b hb;simp only[En.lay];rw[au oM];exact h.apart b o hb
 .intro b hb;have:=h.lt b hb;simp;omega
 .intro b o c hc;by_cases hb:b=w.heap.size
  .exact .inr (.inr oM)
  .simp only[En.lay,hb,if_false]at hc;exact .inl hc
def xg{S:St}{l l':Nat}{o:Ob}(h:gQ (S.set l o) l')(hl:gQ S l):gQ S l':=by
 by_cases hk:l'=l
 .subst hk;exact hl
 .obtain⟨p,hp,hd⟩:=h;rw[bG (Ne.symm hk)]at hp;exact⟨p,hp,hd⟩
def SR.change{E E':En}{S:St}{w w':aP}{l:Nat}{ob:Ob}(h:SR E S w)(hl:gQ S l)(hI:E'.I=E.I)(hle:E.le E')
  (ho:∀l' st,l'≠l->E'.ρ l' st=E.ρ l' st)
  (hb:∀st y,E'.ρ l st=some y->(∃bc z,E.ρ l bc=some z/\z.b=y.b)\/(w.heap.size<=y.b/\y.b<w'.heap.size/\∃bc z,E.ρ l bc=some z))
  (hs:w.heap.size<=w'.heap.size) (hw:∀b,b<w.heap.size->(∀st y,E.ρ l st=some y->y.b≠b)->w'.heap[b]?=w.heap[b]?)
  (I8:(w'.output,w'.os)=(w.output,w.os)) (hn:OR E' w' l ob):SR E' (S.set l ob) w'/\bT S.length E S w E' (S.set l ob) w':=by
 have dW:∀b,own E' (S.set l ob) b->own E S b\/(w.heap.size<=b/\b<w'.heap.size):=by
  rintro b ⟨l',st,x,cj,hx,rfl⟩;by_cases hk:l'=l
  .subst hk;rcases hb st x hx with ⟨bc,z,hz,he⟩|hb
   .exact .inl ⟨l',bc,z,hl,hz,he⟩
   .exact .inr ⟨hb.1,hb.2.1⟩
  .rw[ho l' st hk]at hx;exact .inl ⟨l',st,x,xg cj hl,hx,rfl⟩
 have wV:∀b,b<w.heap.size->¬own E S b->w'.heap[b]?=w.heap[b]?:=λb aB cB=>hw b aB λst y hy e=>cB ⟨l,st,y,hl,hy,e⟩
 refine ⟨⟨h.gl.kL hle.1 (λb _ _ _ hb hg=>hw b (FW hb) λst y hy he=>by
  obtain⟨k,n,hn⟩:=qpI hg;have:=h.gl.1 _ _ _ _ hn
  rw[h.apart b 0 ⟨l,st,y,hl,hy,he⟩] at this;cases this),?_,?_,?_,?_,?_,?_⟩,⟨hs,hle.1,λl' st x _ hx=>hle.2 l' st x hx,λl' _ hx st=>by
   by_cases hk:l'=l
   .subst hk
    cases hy:E'.ρ l' st with
    |none=>rfl
    |some y=>rcases hb st y hy with ⟨bc,z,hz,_⟩|⟨_,_,bc,z,hz⟩<;>(rw[hx bc]at hz;cases hz)
   .rw[ho l' st hk];exact hx st,λb kE=>(dW b kE).imp id And.left,λb o c hc=>.inl (by rw[hI]at hc;exact hc),wV,I8⟩⟩
 .intro b o c hc;rw[hI]at hc;have h1:=h.I b o c hc;rw[zd (wV b (wE h1) λfC=>by rw[h.apart b o fC]at hc;cases hc)];exact h1
 .intro l' o' cj;by_cases hk:l'=l
  .subst hk;have:=bO (l:=S) (i:=l') (a:=ob) (DX hl);rw[this]at cj;cases cj;exact hn
  .rw[bG (Ne.symm hk)]at cj;by_cases hd:o'=.dead
   .subst hd;trivial
   refine(h.fJ l' o' cj).mono hle (λst x hx=>by rw[ho l' st hk]at hx;exact hx) (λst x hx=>?_);have lL:gQ S l':=⟨o',cj,hd⟩;exact hw _ (h.lt _ ⟨l',st,x,lL,hx,rfl⟩) λbc y hy e=>hk (h.inj l' l st bc x y lL hl hx hy e.symm)
 .intro l' st x hx;by_cases hk:l'=l
  .subst hk;simp[DX hl]
  .rw[ho l' st hk]at hx;have:=h.jI _ _ _ hx;simpa using this
 .intro b o kE;rw[hI];rcases dW b kE with kE|⟨kE,_⟩
  .exact h.apart b o kE
  .cases hc:E.I b o with
   |none=>rfl
   |some c=>exact absurd (wE (h.I _ _ _ hc)) oM
 .intro b kE;rcases dW b kE with kE|kE
  .exact pT (h.lt b kE) hs
  .exact kE.2
 .intro l1 l2 fw lG x x' h1 h2 hx iG he;by_cases k1:l1=l<;>by_cases k2:l2=l
  .omega
  .exfalso;subst k1;rw[ho l2 lG k2]at iG;have rq:gQ S l2:=xg h2 hl;rcases hb fw x hx with ⟨bc,z,hz,Nq⟩|⟨Dt,_⟩
   .exact k2 (h.inj l2 l1 lG bc x' z rq hl iG hz oM)
   .have:=h.lt _ ⟨l2,lG,x',rq,iG,rfl⟩;omega
  .exfalso;subst k2;rw[ho l1 fw k1]at hx;have lR:gQ S l1:=xg h1 hl;rcases hb lG x' iG with ⟨bc,z,hz,Nq⟩|⟨Dt,_⟩
   .exact k1 (h.inj l1 l2 fw bc x z lR hl hx hz oM)
   .have:=h.lt _ ⟨l1,fw,x,lR,hx,rfl⟩;omega
  .rw[ho l1 fw k1]at hx;rw[ho l2 lG k2]at iG;exact h.inj l1 l2 fw lG x x' (xg h1 hl) (xg h2 hl) hx iG he
def over(C:Array Value)(o:Nat):List Value->Array Value
 |[]=>C
 |u::us=>over (C.setIfInBounds o u) (o+1) us
def JG:∀(us:List Value) (C:Array Value) (o:Nat),(over C o us).size=C.size
 |[],_,_=>rfl
 |u::us,C,o=>by rw[over,JG us];simp
def G0:∀(us:List Value) (C:Array Value) (o k:Nat),o+us.length<=C.size->(over C o us)[k]?=if o<=k/\k<o+us.length then us[k-o]? else C[k]?
 |[],C,o,k,_=>by simp only[over,qy];rw[au oM]
 |u::us,C,o,k,h=>by
  simp only[gq]at h;rw[over,G0 us _ _ _ (by simp;omega)];by_cases h1:k=o
  .subst h1;rw[au oM,ak sM];simp only[Nat.sub_self,EZ];rw[TC oM]
  .by_cases h2:o+1<=k/\k<o+1+us.length
   .rw[ak h2,ak (by simp;omega)];obtain⟨d,rfl⟩:∃d,k=o+1+d:=⟨k-(o+1),oM⟩;rw[show o+1+d-(o+1)=d by omega,show o+1+d-o=d+1 by omega,CH]
   .rw[au h2,au (by simp;omega),uk (Ne.symm h1)]
def Value.flat:Value->Bool
 |.agg _=>false
 |.tuple _=>false
 |_=>true
def World.put(w:aP)(b:Nat)(C:Array Value)(t:cC):World:={ w with heap:=w.heap.setIfInBounds b (.cells C t (0,0)) }
def Su{w:aP}{b:Nat}{C:Array Value}{t:cC}(h:b<w.heap.size):(World.put w b C t).heap[b]?=some (.cells C t (0,0)):=by
 simp[World.put,h]
def YL{w:aP}{b b':Nat}{C:Array Value}{t:cC}(h:b'≠b):(World.put w b C t).heap[b']?=w.heap[b']?:=by
 simp[World.put,uk (Ne.symm h)]
def qjr{w:aP}{b:Nat}{C:Array Value}{t:cC}:(World.put w b C t).heap.size=w.heap.size:=by simp[World.put]
def H6{w:aP}{b o:Nat}{C:Array Value}{t:cC}{f:Nat×Nat}(h:w.heap[b]?=some (.cells C t f)):w.cell? ⟨b,o,none⟩=C[o]?:=by
 simp[World.cell?,h]
def qpo{w:aP}{b o:Nat}{C:Array Value}{t:cC}(h:w.heap[b]?=some (.cells C t (0,0))):w.frozen? ⟨b,o,none⟩=false:=by
 simp[World.frozen?,h]
def qvY{w:aP}{b o:Nat}{C:Array Value}{t:cC}{v:Value}(h:w.heap[b]?=some (.cells C t (0,0))):w.setCell ⟨b,o,none⟩ v=World.put w b (C.setIfInBounds o v) t:=by
 have hb:b<w.heap.size:=(kQ.1 h).1;have he:w.heap[b]=.cells C t (0,0):=(kQ.1 h).2;unfold World.setCell World.put;congr 1;apply HB;intro i;by_cases hi:i=b
 .subst hi;rw[TC hb];rw[EN];simp[h]
 .rw[uk (Ne.symm hi),EN,au (Ne.symm hi)]
def qvi{w:aP}{b:Nat}{C D:Array Value}{t:cC}:World.put (World.put w b C t) b D t=World.put w b D t:=by
 simp[World.put]
def qvh{w:aP}{b:Nat}{C:Array Value}{t:cC}(h:w.heap[b]?=some (.cells C t (0,0))):World.put w b C t=w:=by
 have hb:b<w.heap.size:=(kQ.1 h).1
 have:w.heap.setIfInBounds b (.cells C t (0,0))=w.heap:=by
  apply HB;intro i;by_cases hi:i=b
  .subst hi;rw[TC hb,h]
  .rw[uk (Ne.symm hi)]
 unfold World.put;rw[this]
def wm(b o i:Nat):(⟨b,o,none⟩:Addr).add i=⟨b,o+i,none⟩:=by
 unfold Addr.add;split
 .rename_i h;subst h;rfl
 .rfl
def qvK{P:aG}{w:aP}{b o:Nat}{C:Array Value}{t:cC}{v:Value}(h:w.heap[b]?=some (.cells C t (0,0)))(ho:o<C.size)(hv:Value.flat v=true):
  (store ⟨b,o,none⟩ v).run P w=.ok () (World.put w b (C.setIfInBounds o v) t):=by
 have hc:w.cell? ⟨b,o,none⟩=some C[o]:=by rw[H6 h];simp[ho]
 rw[<-qvY h];cases v<;>first|(simp[Value.flat]at hv;done)|simp[store,Sem.run,hc,qpo h]
def YV{P:aG}{b o:Nat}{t:cC}:∀(us:List Value) (i:Nat) (w:aP) (C:Array Value),w.heap[b]?=some (.cells C t (0,0))->o+i+us.length<=C.size->
  (∀u,u∈us->Value.flat u=true)->(storeCells ⟨b,o,none⟩ us i).run P w=.ok () (World.put w b (over C (o+i) us) t)
 |[],i,w,C,h,_,_=>by simp only[storeCells,over];rw[qvh h];rfl
 |u::us,i,w,C,h,hs,hf=>by
  simp only[gq]at hs;simp only[storeCells,wm,Sem.run_bind];rw[qvK h oM (hf u sM)];simp only[Result.andThen];have hb:b<w.heap.size:=(kQ.1 h).1;rw[YV us (i+1) _ _ (Su hb) (by simp;omega) (λx hx=>hf x (by simp[hx])),qvi];rfl
def qjM{P:aG}{w:aP}{b o:Nat}{u:Value}(h:w.cell? ⟨b,o,none⟩=some u):(load ⟨b,o,none⟩).run P w=.ok u w:=by
 simp[load,Sem.run,h]
def qjN{P:aG}{w:aP}{b o:Nat}:∀(n i:Nat) (acc:Array Value) (us:List Value),us.length=n->(∀j,j<n->w.cell? ⟨b,o+i+j,none⟩=us[j]?)->
  (loadCellsFrom ⟨b,o,none⟩ i n acc).run P w=.ok (acc++us.toArray) w
 |0,i,acc,us,hl,_=>by
  have:us=[]:=Po.1 hl;subst this;simp[loadCellsFrom,Sem.run_pure]
 |n+1,i,acc,us,hl,h=>by
  cases us with
  |nil=>simp at hl
  |cons u us=>
   simp only[gq,Nat.add_right_cancel_iff]at hl;simp only[loadCellsFrom,wm,Sem.run_bind];rw[qjM (u:=u) (by simpa using h 0 oM)];simp only[Result.andThen]
   rw[qjN n (i+1) (acc.push u) us hl (λj hj=>by
    have:=h (j+1) oM;rw[CH]at this;rw[<-this];congr 2;omega)]
   simp
def qvI{P:aG}{w:aP}{b o n:Nat}{us:List Value}(hl:us.length=n)(h:∀j,j<n->w.cell? ⟨b,o+j,none⟩=us[j]?):
  (loadCells ⟨b,o,none⟩ n).run P w=.ok us.toArray w:=by
 unfold loadCells;rw[qjN n 0 #[] us hl (by simpa using h)];simp
def V.flat:V->Bool
 |.agg _=>false
 |.aV _=>false
 |.hG=>false
 |_=>true
def V.isAgg:V->Bool
 |.agg _=>true
 |_=>false
def V.size(v:V):Nat:=v.cells.length
def V.part(v:V)(off:Nat):Option Nat->Option V
 |none=>v.cells[off]?
 |some n=>if off=0/\n=v.size/\v.isAgg=true then some v else match v with
  |.agg cs=>if off+n<=cs.length then some (.agg ((cs.drop off).take n)) else none
  |_=>none
def V.fZ(v:V)(off n:Nat)(x:V):Option V:=
 if x.size=n/\(x.cells.all V.flat)=true then
  if off=0/\n=v.size then some x else match v with
  |.agg cs=>if off+n<=cs.length then some (.agg (cs.take off++x.cells++cs.drop (off+n))) else none
  |_=>none
 else none
def VR.flat{E:En}{v:V}{u:Value}(h:VR E v u)(hv:v.flat=true):Value.flat u=true:=by
 cases h<;>first|rfl|(simp[V.flat]at hv)
def VR.cells{E:En}{v:V}{u:Value}(h:VR E v u)(Xa:v≠.hG):v.cells.length=u.cells.size/\∀(i:Nat) (c:V) (d:Value),v.cells[i]?=some c->u.cells[i]?=some d->VR E c d:=by
 have one:∀{v:V} {u:Value},VR E v u->v.cells=[v]->u.cells=#[u]->v.cells.length=u.cells.size/\∀(i:Nat) (c:V) (d:Value),v.cells[i]?=some c->u.cells[i]?=some d->VR E c d:=by
  intro v u h h1 h2;rw[h1,h2];refine⟨rfl,λi c d hc hd=>?_⟩
  cases i with
  |zero=>simp at hc hd;subst hc;subst hd;exact h
  |succ i=>simp at hc
 cases h with
 |hG u=>exact absurd rfl Xa
 |agg h g=>exact⟨h,g⟩
 |bool b=>exact one (.bool b) rfl rfl
 |int k n=>exact one (.int k n) rfl rfl
 |str s=>exact one (.str s) rfl rfl
 |cu=>exact one .cu rfl rfl
 |ptr i off hr=>exact one (.ptr i off hr) rfl rfl
 |dE g off=>exact one (.dE g off) rfl rfl
 |cq off hI hv=>exact one (.cq off hI hv) rfl rfl
 |slnil x=>exact one (.slnil x) rfl rfl
 |pL x a=>exact one (.pL x a) rfl rfl
 |sl hc hx hs hI hv=>exact one (.sl hc hx hs hI hv) rfl rfl
 |arr hr hN hc=>exact one (.arr hr hN hc) rfl rfl
 |dI=>exact one .dI rfl rfl
 |map hr=>exact one (.map hr) rfl rfl
 |fn h1 h2 g1 g2=>exact one (.fn h1 h2 g1 g2) rfl rfl
 |bY=>exact one .bY rfl rfl
 |iface t h=>exact one (.iface t h) rfl rfl
 |eB=>exact one .eB rfl rfl
 |dc hr=>exact one (.dc hr) rfl rfl
 |aV h g=>exact one (.aV h g) rfl rfl
def VR.P3{E:En}{v:V}{u:Value}(h:VR E v u)(hv:v≠.hG){i:Nat}{c:V}(hc:v.cells[i]?=some c):∃d,u.cells[i]?=some d/\VR E c d:=by
 obtain⟨h1,h2⟩:=h.cells hv;have hi:=(br.1 hc).1;have:i<u.cells.size:=oM;exact⟨u.cells[i],by simp[this],h2 i c _ hc (by simp[this])⟩
def At(E:En)(w:aP)(b o:Nat)(v:V):Prop:=∀j c,v.cells[j]?=some c->∃d,w.cell? ⟨b,o+j,none⟩=some d/\VR E c d
def At.cell{E:En}{P:aG}{w:aP}{b o off:Nat}{v c:V}(h:At E w b o v)(hc:v.part off none=some c):∃d,(load ⟨b,o+off,none⟩).run P w=.ok d w/\VR E c d:=by
 obtain⟨d,hd,hr⟩:=h off c hc;exact⟨d,qjM hd,hr⟩
def JO{E:En}{P:aG}{w:aP}{b o n:Nat}{cs:List V}(hl:cs.length=n)(h:∀j c,cs[j]?=some c->∃d,w.cell? ⟨b,o+j,none⟩=some d/\VR E c d):
  ∃us,(loadCells ⟨b,o,none⟩ n).run P w=.ok us w/\VR E (.agg cs) (.agg us):=by
 have hex:∀j,j<n->∃d,w.cell? ⟨b,o+j,none⟩=some d:=λj hj=>by
  obtain⟨d,hd,_⟩:=h j cs[j] sM;exact⟨d,hd⟩
 let us:List Value:=(List.range n).map λj=>(w.cell? ⟨b,o+j,none⟩).getD undef
 have mQ:us.length=n:=by simp[us]
 have lK:∀j,j<n->w.cell? ⟨b,o+j,none⟩=us[j]?:=λj hj=>by
  obtain⟨d,hd⟩:=hex j hj;simp[us,hj,hd]
 refine⟨us.toArray,qvI mQ lK,.agg (by simp[mQ,hl]) λi v u hv hu=>?_⟩;have hi:i<n:=by rw[<-hl];exact(br.1 hv).1
 obtain⟨d,hd,hr⟩:=h i v hv;rw[lK i hi]at hd;simp at hu;rw[hd]at hu;cases hu;exact hr
def At.agg{E:En}{P:aG}{w:aP}{b o off n:Nat}{v r:V}(h:At E w b o v)(hr:v.part off (some n)=some r):
  ∃us,(loadCells ⟨b,o+off,none⟩ n).run P w=.ok us w/\VR E r (.agg us):=by
 simp only[V.part]at hr;split at hr
 .rename_i hc;obtain⟨rfl,rfl,ha⟩:=hc;cases hr;cases v<;>simp[V.isAgg]at ha;rename_i cs;exact JO rfl (λj c hc=>by simpa using h j c hc)
 .split at hr
  .rename_i cs;split at hr
   .rename_i hle;cases hr;refine JO (by simp;omega) λj c hc=>?_
    have hj:j<n:=by
     have:=(br.1 hc).1;simp at this;omega
    rw[qx hj,qw]at hc;obtain⟨d,hd,hr⟩:=h (off+j) c hc;exact⟨d,by rw[<-hd];congr 2;omega,hr⟩
   .cases hr
  .cases hr
def oc(P:aG)(t:cC):Option (Option Nat):=
 match P.underlying t with
 |some (.struct _)|some (.array _ _)=>(P.info? t).map λi=>some i.size
 |some _=>some none
 |none=>none
def fj{P:aG}{t:cC}{d:TypeDesc}{w:aP}(h:P.underlying t=some d):(underlying t).run P w=.ok d w:=by
 simp[underlying,program,Sem.run_bind,Sem.run,Result.andThen,h,Sem.run_pure]
def SJ{P:aG}{t:cC}{i:TypeInfo}{w:aP}(h:P.info? t=some i):(typeInfo t).run P w=.ok i w:=by
 have h':P.toTables.info? t=some i:=h;simp[typeInfo,program,Sem.run_bind,Sem.run,Result.andThen,h',Sem.run_pure]
def rF{P:aG}{t:cC}{i:TypeInfo}{w:aP}(h:P.info? t=some i):(sizeOf t).run P w=.ok i.size w:=by
 simp[sizeOf,SJ h,Result.andThen]
def YU{E:En}{P:aG}{w:aP}{b o off:Nat}{v r:V}{t:cC}{k:Option Nat}(hk:oc P t=some k)(h:At E w b o v)(hr:v.part off k=some r):
  ∃u,(loadVar t ⟨b,o+off,none⟩).run P w=.ok u w/\VR E r u:=by
 unfold oc at hk
 have scalar:∀d,P.underlying t=some d->(∀fs,d≠.struct fs)->(∀n e,d≠.array n e)->k=none->∃u,(loadVar t ⟨b,o+off,none⟩).run P w=.ok u w/\VR E r u:=by
  intro d hd h1 h2 hk;subst hk;obtain⟨u,hu,hr⟩:=h.cell (P:=P) hr;refine⟨u,?_,hr⟩
  have:(isAgg t).run P w=.ok false w:=by
   simp only[isAgg,Sem.run_bind,fj hd,Result.andThen];cases d<;>first|rfl|exact absurd rfl (h1 _)|exact absurd rfl (h2 _ _)
  simp only[loadVar,Sem.run_bind,this,Result.andThen];exact hu
 have agg:∀d,P.underlying t=some d->(∃fs,d=.struct fs)\/(∃n e,d=.array n e)->((P.info? t).map λi=>some i.size)=some k->∃u,(loadVar t ⟨b,o+off,none⟩).run P w=.ok u w/\VR E r u:=by
  intro d hd h1 hk
  cases hi:P.info? t with
  |none=>rw[hi]at hk;cases hk
  |some i=>
   rw[hi]at hk;cases hk;obtain⟨us,hu,hr⟩:=h.agg (P:=P) hr
   have:(isAgg t).run P w=.ok true w:=by
    simp only[isAgg,Sem.run_bind,fj hd,Result.andThen];rcases h1 with ⟨fs,rfl⟩|⟨n,e,rfl⟩<;>rfl
   refine⟨.agg us,?_,hr⟩;simp only[loadVar,Sem.run_bind,this,Result.andThen,if_true,rF hi,hu];rfl
 cases hd:P.underlying t with
 |none=>rw[hd]at hk;cases hk
 |some d=>
  rw[hd]at hk;cases d<;>first
   |exact agg _ hd (.inl ⟨_,rfl⟩) hk
   |exact agg _ hd (.inr ⟨_,_,rfl⟩) hk
   |(cases hk;exact scalar _ hd (λ_=>by simp) (λ_ _=>by simp) rfl)
def ab(S:St)(p:V)(k:Option Nat):Option V:=
 match p with
 |.cq v off=>v.part off k
 |.ptr l i off st=>match S[l]? with
  |some (.arr xs _ wr)=>if wr<=st/\i<st then(xs[i]?).bind λv=>v.part off k else none
  |_=>none
 |.dE g off=>match IC g off with
  |some (kd,n)=>(V.int kd n).part 0 k
  |none=>none
 |_=>none
def At.qt0{E:En}{S:St}{w:aP}(hs:SR E S w){v:V}{b o:Nat}(hI:∀j,j<v.cells.length->(E.I b (o+j)).isSome=true)
  (hv:∀j c' c,v.cells[j]?=some c'->E.I b (o+j)=some c->VR E c' c):At E w b o v:=λj c hc=>by
 obtain⟨d,hd⟩:=KT.1 (hI j (br.1 hc).1);exact⟨d,hs.I _ _ _ hd,hv j c d hc hd⟩
def At.qt2{E:En}{S:St}{w:aP}(hs:SR E S w){l i st sz wr:Nat}{xs:List V}{v:V}{x:qq}(ho:S[l]?=some (.arr xs sz wr))(hx:E.ρ l st=some x)(sB:wr<=st)(hi:i<st)(hv:xs[i]?=some v):
  At E w x.b (i*x.sz) v:=λj c hc=>by
 obtain⟨h0,h1,h2⟩:=hs.fJ l _ ho;obtain⟨h3,h4,cells,t,h5,h6,h7,h8⟩:=h2 st x hx sB;obtain⟨d,hd,hr⟩:=h8 i v hv hi j c hc;exact⟨d,by rw[H6 h5];exact hd,hr⟩
def qj5{E:En}{S:St}{P:aG}{w:aP}{p r:V}{u:Value}{t:cC}{k:Option Nat}(hs:SR E S w)(hp:VR E p u)(hk:oc P t=some k)(hr:ab S p k=some r):
    ∃d,(Instr.loadAt t u).run P w=.ok d w/\VR E r d:=by
  cases hp with
  |dE g off=>
    simp only[ab]at hr;split at hr
    · rename_i kd n hg
      obtain ⟨d,hd,hr⟩:=YU (P:=P) (b:=g) (o:=off) hk (show At E w g off (.int kd n) fromλj c hc=>by
        match j with
        |0=>simp[V.cells]at hc;subst hc;exact⟨_,hs.I _ _ _ (hs.gl.1 _ _ _ _ hg),.int kd n⟩
        |j+1=>simp[V.cells]at hc) hr
      exact⟨d,by simp only[Instr.loadAt,Instr.sureAddr,Sem.run_bind,Sem.run_pure,Result.andThen];exact hd,hr⟩
    · cases hr
  |cq off hI hv=>
    obtain⟨d,hd,hr⟩:=YU (P:=P) hk (At.qt0 hs hI hv) hr;exact⟨d,by simp only[Instr.loadAt,Instr.sureAddr,Sem.run_bind,Sem.run_pure,Result.andThen];exact hd,hr⟩
  |ptr i off hx=>
    simp only[ab]at hr;split at hr
    · rename_i xs sz wr ho;split at hr
      · rename_i hc
        cases hv:xs[i]? with
        |none=>rw[hv]at hr;cases hr
        |some v=>
          rw[hv]at hr;obtain⟨d,hd,hr⟩:=YU (P:=P) hk (At.qt2 hs ho hx hc.1 hc.2 hv) hr;exact⟨d,by simp only[Instr.loadAt,Instr.sureAddr,Sem.run_bind,Sem.run_pure,Result.andThen];exact hd,hr⟩
      · cases hr
    · cases hr
  |_=>simp[ab]at hr
def aI(S:St)(p:V)(n:Nat)(x:V):Option St:=
 match p with
 |.ptr l i off st=>match S[l]? with
  |some (.arr xs sz _)=>if st=xs.length then(xs[i]?).bind λv=>(v.fZ off n x).map λv'=>S.set l (.arr (xs.set i v') sz st) else none
  |_=>none
 |_=>none
def qk6{v x v':V}{off n:Nat}(h:v.fZ off n x=some v'):x.size=n/\x.cells.all V.flat=true/\off+n<=v.cells.length/\v'.cells.length=v.cells.length/\
  ∀j,v'.cells[j]?=if off<=j/\j<off+n then x.cells[j-off]? else v.cells[j]?:=by
 unfold V.fZ at h;split at h
 .rename_i hc;obtain⟨h1,h2⟩:=hc;refine⟨h1,h2,?_⟩;split at h
  .rename_i hc;obtain⟨rfl,rfl⟩:=hc;cases h;unfold V.size at h1;refine⟨by simp[V.size],h1,λj=>?_⟩;by_cases hj:j<v.size
   .rw[ak oM];simp
   .rw[au oM,rQ (by unfold V.size at hj;omega),rQ (by unfold V.size at hj;omega)]
  .split at h
   .rename_i cs _;split at h
    .rename_i hle;cases h;have hx:x.cells.length=n:=h1;have e1:(V.agg (cs.take off++x.cells++cs.drop (off+n))).cells=cs.take off++x.cells++cs.drop (off+n):=rfl;have e2:(V.agg cs).cells=cs:=rfl;rw[e1,e2]at *;generalize x.cells=xc at *;refine⟨hle,by simp;omega,λj=>?_⟩;by_cases h1:j<off
     .rw[au oM,dY,dh (by simp;omega),qx h1]
     .by_cases h2:j<off+n
      .rw[ak oM,dY,cx (by simp;omega),dh (by simp;omega)];congr 1;simp;omega
      .rw[au oM,cx (by simp;omega),qw];congr 1;simp;omega
    .cases h
   .cases h
 .cases h
def uO{x:V}(h:x.cells.all V.flat=true):x≠.hG:=by
 rintro rfl;simp[V.cells,V.flat]at h
def qo3{E:En}{x:V}{u:Value}(h:VR E x u)(hf:x.cells.all V.flat=true):∀c,c∈u.cells.toList->Value.flat c=true:=by
 intro c hc;obtain⟨h1,h2⟩:=h.cells (uO hf);obtain⟨i,hi,he⟩:=xF hc;have eI:i<x.cells.length:=by simp at hi;omega
 have:=h2 i x.cells[i] c sM (by rw[<-he];simp at hi;simp);exact this.flat (by simp at hf;exact hf _ (dz eI))
def qvL{E:En}{P:aG}{w:aP}{b o:Nat}{C:Array Value}{t T:cC}{i:TypeInfo}{x:V}{u:Value}(hi:P.info? t=some i)(h:w.heap[b]?=some (.cells C T (0,0)))
  (hx:VR E x u) (hf:x.cells.all V.flat=true) (hn:x.size=i.size) (ho:o+i.size<=C.size):
  (storeVar t ⟨b,o,none⟩ u).run P w=.ok () (World.put w b (over C o u.cells.toList) T):=by
 obtain⟨h1,h2⟩:=hx.cells (uO hf);have hs:u.cells.size=i.size:=by rw[<-hn,V.size,h1]
 simp only[storeVar,Sem.run_bind,rF hi,Result.andThen,hs,ne_eq,not_true_eq_false,if_false];rw[YV u.cells.toList 0 w C h (by simp;omega) (qo3 hx hf)];simp
def qwn{E:En}{S S':St}{P:aG}{w:aP}{p x:V}{u d:Value}{t:cC}{i:TypeInfo}(hs:SR E S w)(hp:VR E p u)(hx:VR E x d)(hi:P.info? t=some i)(h:aI S p i.size x=some S'):
  ∃w',(Instr.storeAt t u d).run P w=.ok () w'/\SR E S' w'/\bT S.length E S w E S' w'/\S.length<=S'.length:=by
 cases hp with
 |ptr ix off hr=>
  rename_i l st y;simp only[aI]at h;split at h
  .rename_i xs sz wr ho;split at h
   .rename_i bg
    cases hv:xs[ix]? with
    |none=>rw[hv]at h;cases h
    |some v=>
     rw[hv]at h;simp only[gG]at h
     cases hu:v.fZ off i.size x with
     |none=>rw[hu]at h;cases h
     |some v'=>
      rw[hu]at h;cases h;obtain⟨u1,u2,u3,u4,u5⟩:=qk6 hu;have wX:=hs.fJ l _ ho;obtain⟨h0,h1,h2⟩:=wX;have aB:=(br.1 hv).1;have sB:wr<=st:=oM;obtain⟨h3,h4,C,T,h5,h6,h7,h8⟩:=h2 st y hr sB;have mC:v.cells.length=y.sz:=by rw[h4];exact h1 v (dZ hv)
      have hmul:(ix+1)*y.sz<=xs.length*y.sz:=vY _ oM;have qAr:(ix+1)*y.sz=ix*y.sz+y.sz:=by rw[jH];omega
      have sd:ix*y.sz+off+i.size<=C.size:=by rw[bg]at h7;omega
      have hb:y.b<w.heap.size:=(kQ.1 h5).1;have fN:=qvL (P:=P) (o:=ix*y.sz+off) hi h5 hx u2 u1 sd;have hc:=hx.cells (uO u2);refine⟨_,by simp only[Instr.storeAt,Instr.sureAddr,Sem.run_bind,Sem.run_pure,Result.andThen];exact fN,?_⟩;have gX:gQ S l:=⟨_,ho,sM⟩;have bF:d.cells.toList.length=i.size:=by simp;rw[<-hc.1];exact u1
      have zr:OR E (World.put w y.b (over C (ix*y.sz+off) d.cells.toList) T) l (.arr (xs.set ix v') sz st):=by
       refine⟨⟨h0.1,by simp;omega⟩,λz hz=>?_,λbc y' zy zu=>?_⟩
       .rcases List.mem_or_eq_of_mem_set hz with hz|rfl
        .exact h1 z hz
        .rw[u4];exact h1 v (dZ hv)
       .obtain⟨g3,g4,_⟩:=h2 bc y' zy oM;have:bc=st:=oM;subst this;rw[hr]at zy;cases zy;refine⟨by simp;omega,h4,_,T,Su hb,by rw[JG];exact h6,h7,λk z hz hk j c FT=>?_⟩;rw[G0 _ _ _ _ (by rw[bF];exact sd),bF]
        have vn:z.cells.length=y.sz:=by
         rw[h4];rcases List.mem_or_eq_of_mem_set (dZ hz) with hz|rfl
         .exact h1 z hz
         .rw[u4];exact h1 v (dZ hv)
        have hj:j<y.sz:=by rw[<-vn];exact(br.1 FT).1
        by_cases Gf:k=ix
        .subst Gf;rw[bO aB]at hz;cases hz;rw[u5]at FT;by_cases jP:off<=j/\j<off+i.size
         .rw[ak jP]at FT;rw[ak oM];obtain⟨e,he,hre⟩:=hx.P3 (uO u2) FT;exact⟨e,by rw[show k*y.sz+j-(k*y.sz+off)=j-off by omega];simpa using he,hre⟩
         .rw[au jP]at FT;rw[au oM];exact h8 k v hv hk j c FT
        .rw[bG (Ne.symm Gf)]at hz
         have I8:¬(ix*y.sz+off<=k*y.sz+j/\k*y.sz+j<ix*y.sz+off+i.size):=by
          have qAu:off+i.size<=y.sz:=oM;rcases xI k ix with Gg|Dt
          .have:(k+1)*y.sz<=ix*y.sz:=vY _ Gg;rw[jH]at this;omega
          .have:(ix+1)*y.sz<=k*y.sz:=vY _ oM;rw[jH]at this;omega
         rw[au I8];exact h8 k z hz hk j c FT
      have:=hs.change (E':=E) (w':=World.put w y.b (over C (ix*y.sz+off) d.cells.toList) T) gX rfl (En.le_refl E) (λ_ _ _=>rfl) (λs z hz=>.inl ⟨s,z,hz,rfl⟩) (by rw[qjr];exact dl _)
       (λb _ cB=>YL (λe=>cB _ _ hr e.symm)) rfl zr
      exact⟨this.1,this.2,sM⟩
   .cases h
  .cases h
 |_=>simp[aI]at h
def dw(P:aG)(E:En)(S:St)(w:aP)(s:Sem Value)(r:V)(S':St):Prop:=
 ∃d E' w',s.run P w=.ok d w'/\VR E' r d/\SR E' S' w'/\bT S.length E S w E' S' w'/\S.length<=S'.length
def dw.pure{P:aG}{E:En}{S:St}{w:aP}{s:Sem Value}{r:V}{d:Value}(hs:SR E S w)(h:s.run P w=.ok d w)(hr:VR E r d):dw P E S w s r S:=
 ⟨d,E,w,h,hr,hs,bT.refl _ _ _ _,dl _⟩
def G9{P:aG}{w:aP}{t:cC}{C:Array Value}:(newRow t C).run P w=.ok ⟨w.heap.size,0,none⟩ { w with heap:=w.heap.push (.cells C t (0,0)) }:=by
 simp[newRow,newObj,Sem.run,Result.andThen]
def aL(S:St)(x:V):Option (V×St):=if(x.cells.all V.flat)=true/\0<x.size then some (.ptr S.length 0 0 1,S++[.arr [x] x.size 1]) else none
def qj4{E:En}{S S':St}{P:aG}{w:aP}{x r:V}{d:Value}{t:cC}(hs:SR E S w)(hx:VR E x d)(h:aL S x=some (r,S')):dw P E S w (Instr.box t d) r S':=by
 unfold aL at h;split at h
 .rename_i hc;obtain⟨hf,h0⟩:=hc;cases h;obtain⟨h1,h2⟩:=hx.cells (uO hf)
  have cB:E.ρ S.length 1=none:=by
   cases hr:E.ρ S.length 1 with
   |none=>rfl
   |some y=>exact absurd (hs.jI _ _ _ hr) oM
  obtain ⟨n1,n2⟩:=hs.new (o:=.cells d.cells t (0,0)) (ob:=.arr [x] x.size 1) (st:=1) (N:=d.cells.size) (sz:=x.size) (by
   refine⟨⟨h0,sM⟩,λv hv=>?_,λst y hy bg=>?_⟩
   .simp at hv;subst hv;rfl
   .by_cases bw:st=1
    .subst bw;rw[ml]at hy;cases hy;refine⟨sM,rfl,d.cells,t,G3,rfl,by simp[V.size,h1],λi v hv hi j c hc=>?_⟩;have WV:i=0:=oM;subst WV;simp at hv;subst hv;obtain⟨e,he,hr⟩:=hx.P3 (uO hf) hc;exact⟨e,by simpa using he,hr.mono (xR cB)⟩
    .exfalso;simp only[En.at]at hy;rw[au (by simp;exact bw)]at hy;exact absurd (hs.jI _ _ _ hy) oM)
  refine⟨.pointer (some ⟨w.heap.size,0,none⟩),_,_,?_,?_,n1,n2,sM⟩
  .simp only[Instr.box,newVar,Sem.run_bind,G9,Result.andThen,Sem.run_pure]
  .have:=VR.ptr (E:=E.at S.length 1 ⟨w.heap.size,d.cells.size,x.size⟩) (l:=S.length) (st:=1) 0 0 ml;simpa using this
 .cases h
def yI{P:aG}{t:cC}{i:TypeInfo}{z:Value}{w:aP}(h:P.info? t=some i)(hz:i.zero=some z):(zeroValue t).run P w=.ok z w:=by
 simp[zeroValue,Sem.run_bind,SJ h,Result.andThen,hz,Sem.run_pure]
def qvZ{E:En}{S S':St}{P:aG}{w:aP}{x r:V}{z o:Value}{t:cC}{i:TypeInfo}(hi:P.info? t=some i)(hz:i.zero=some z)(hs:SR E S w)(hx:VR E x z)(h:aL S x=some (r,S')):
  dw P E S w (Instr.alloc t true o) r S':=by
 obtain⟨d,E',w',h1,h2⟩:=qj4 (P:=P) (t:=t) hs hx h;refine⟨d,E',w',?_,h2⟩;rw[<-h1];simp[Instr.alloc,Instr.box,Sem.run_bind,yI hi hz,Result.andThen]
def AD(p:V)(off:Nat):Option V:=
 match p with
 |.ptr l i o st=>some (.ptr l i (o+off) st)
 |.cq v o=>some (.cq v (o+off))
 |.dE g o=>some (.dE g (o+off))
 |_=>none
def VR.fa{E:En}{p r:V}{u:Value}{off:Nat}(hp:VR E p u)(h:AD p off=some r):∃b o,u=.pointer (some ⟨b,o,none⟩)/\VR E r (.pointer (some ⟨b,o+off,none⟩)):=by
 cases hp with
 |dE g o=>cases h;exact⟨_,_,rfl,.dE g (o+off)⟩
 |ptr i o hr=>
  cases h;exact⟨_,_,rfl,by have:=VR.ptr i (o+off) hr;rw[<-jU]at this;exact this⟩
 |cq o hI hv=>
  cases h;exact⟨_,_,rfl,by have:=VR.cq (o+off) hI hv;rw[<-jU]at this;exact this⟩
 |_=>simp[AD]at h
def VI(P:aG)(t:cC)(f:Nat):Option Nat:=
 match P.underlying t with
 |some (.struct fs)=>match fs[f]? with
  |some x=>match P.info? x.type with
   |some i=>if i.size=0 then none else some x.offset
   |none=>none
  |none=>none
 |_=>none
def qwb{E:En}{S:St}{P:aG}{w:aP}{p r:V}{u:Value}{t:cC}{f off:Nat}(hs:SR E S w)(hp:VR E p u)(ho:VI P t f=some off)(h:AD p off=some r):dw P E S w (Instr.fieldAt t u f) r S:=by
 obtain⟨b,o,rfl,hr⟩:=hp.fa h;unfold VI at ho;split at ho<;>try cases ho
 rename_i fs hu;split at ho<;>try cases ho
 rename_i x hx;split at ho<;>try cases ho
 rename_i i hi;split at ho<;>try cases ho
 rename_i hz;refine dw.pure hs ?_ hr;simp only[Instr.fieldAt,Sem.run_bind,fj hu,Result.andThen,hx,Instr.sureAddr,Sem.run_pure,fieldPlace,rF hi,hz,if_false,wm]
def gP(S:St)(sz:Nat)(p:V)(ix:Int):Option V:=
 match p with
 |.sl _ xs=>if 0<=ix then match xs[ix.toNat]? with
   |some v=>if v.size=sz then some (.cq v 0) else none
   |none=>none
  else none
 |.arr l off len st=>match S[l]? with
  |some (.arr _ s wr)=>if wr<=st/\s=sz/\0<=ix/\ix<len then some (.ptr l (off+ix.toNat) 0 st) else none
  |_=>none
 |_=>none
def FD(P:aG)(t:cC):Option Nat:=
 match P.underlying t with
 |some (.slice e)=>(P.info? e).map λi=>i.size
 |_=>none
def qwd{E:En}{S:St}{P:aG}{w:aP}{p r:V}{u:Value}{t:cC}{k:IntKind}{sz:Nat}{ix:Int}(hs:SR E S w)(hp:VR E p u)(ho:FD P t=some sz)(h:gP S sz p ix=some r):
  dw P E S w (Instr.indexAt t u (.int k ix)) r S:=by
 unfold FD at ho;split at ho<;>try cases ho
 rename_i e hu
 cases hi:P.info? e with
 |none=>rw[hi]at ho;cases ho
 |some i=>
  rw[hi]at ho;cases ho
  have run:∀(b o len cap:Nat),0<=ix->ix<len->(Instr.indexAt t (.slice (some ⟨b,o,none⟩) len cap) (.int k ix)).run P w=.ok (.pointer (some ⟨b,o+ix.toNat*i.size,none⟩)) w:=by
   intro b o len cap h0 h1;simp only[Instr.indexAt,asIntOf,Sem.run_bind,Sem.run_pure,Result.andThen,fj hu];by_cases hl:len<=1
   .simp[fj hu,Result.andThen,h0,h1,rF hi,wm]
   .simp[Result.andThen,h0,h1,rF hi,wm]
  cases hp with
  |slnil x=>simp[gP]at h
  |pL x a=>simp[gP]at h
  |sl hc hx tD hI hv=>
   rename_i x xs b o cap sz';simp only[gP]at h;split at h<;>try cases h
   rename_i h0;split at h<;>try cases h
   rename_i v sC;split at h<;>try cases h
   rename_i bF;have aB:=(br.1 sC).1;have he:=tD v (dZ sC);have qrO:i.size=sz':=by rw[<-bF,V.size,he]
   refine dw.pure hs (run b o _ cap h0 oM) ?_;rw[qrO];have:=VR.cq (E:=E) (v:=v) (b:=b) (o:=o+ix.toNat*sz') 0 (λj hj=>hI ix.toNat j aB oM) (λj c' c hc eI=>hv ix.toNat v j c' c sC hc eI);simpa using this
  |arr hr hN hc=>
   rename_i l off len cap st x;simp only[gP]at h;split at h<;>try cases h
   rename_i ys s wr wX;split at h<;>try cases h
   rename_i j0;obtain⟨c1,c2,c3,c4⟩:=j0;have bF:=((hs.fJ l _ wX).2.2 st x hr c1).2.1;refine dw.pure hs (run _ _ _ cap c3 c4) ?_;have:=VR.ptr (off+ix.toNat) 0 hr;rw[<-c2,<-bF,<-jH];simpa using this
  |_=>simp[gP]at h
def elems(S:St)(v:V):Option (List V):=
 match v with
 |.sl _ xs=>some xs
 |.arr l off len st=>match S[l]? with
  |some (.arr xs _ wr)=>if wr<=st/\off+len<=st then some ((xs.drop off).take len) else none
  |_=>none
 |_=>none
def jK(xs:List V):List V:=xs.flatMap V.cells
def Qm{xs:List V}{sz:Nat}(hs:∀v,v∈xs->v.cells.length=sz):∀{i j:Nat} {v:V},xs[i]?=some v->j<sz->(jK xs)[i*sz+j]?=v.cells[j]?:=by
 induction xs with
 |nil=>intro i j v h;simp at h
 |cons y ys ih=>
  intro i j v h hj;have hy:y.cells.length=sz:=hs y sM;simp only[jK,nl]
  cases i with
  |zero=>
   simp at h;subst h;rw[Nat.zero_mul,mg,dh oM]
  |succ i=>
   simp at h;rw[Nat.succ_mul,cx oM,hy,show i*sz+sz+j-sz=i*sz+j by omega];exact ih (λv hv=>hs v (by simp[hv])) h hj
def uP{xs:List V}{sz:Nat}(hs:∀v,v∈xs->v.cells.length=sz):(jK xs).length=xs.length*sz:=by
 induction xs with
 |nil=>simp[jK]
 |cons y ys ih=>
  have hy:y.cells.length=sz:=hs y sM;have:=ih (λv hv=>hs v (by simp[hv]));simp only[jK,nl,dx,gq]at *;rw[this,hy,Nat.succ_mul,Nat.add_comm]
def qeK{xs:List V}{sz:Nat}(hs:∀v,v∈xs->v.cells.length=sz)(h0:0<sz){k:Nat}{c:V}(h:(jK xs)[k]?=some c):∃v,xs[k/sz]?=some v/\v.cells[k%sz]?=some c:=by
 have hk:=(br.1 h).1;rw[uP hs]at hk;have hi:k/sz<xs.length:=Nat.div_lt_of_lt_mul (by rw[Nat.mul_comm];exact hk);refine⟨xs[k/sz],by simp[hi],?_⟩;rw[<-Qm hs (i:=k/sz) (j:=k%sz) (by simp[hi]) (Nat.mod_lt _ h0),show k/sz*sz+k%sz=k by rw[Nat.mul_comm];exact Nat.div_add_mod k sz];exact h
def G8{E:En}{S:St}{P:aG}{w:aP}{v:V}{u:Value}{xs:List V}{sz:Nat}(hs:SR E S w)(hv:VR E v u)(he:elems S v=some xs)(bF:∀x,x∈xs->x.size=sz)(h0:0<sz):
  ∃(a:Option Addr) (cap:Nat) (us:Array Value),u=.slice a xs.length cap/\(Builtin.firstCells sz xs.length u).run P w=.ok us w/\VR E (.agg (jK xs)) (.agg us):=by
 have hlen:=uP (xs:=xs) (sz:=sz) bF
 cases hv with
 |slnil x=>
  cases he;exact⟨none,0,#[],rfl,by simp[Builtin.firstCells],.agg rfl (λi v u h _=>by simp[jK]at h)⟩
 |pL x a=>
  cases he;exact⟨some a,0,#[],rfl,by simp[Builtin.firstCells,loadCells,loadCellsFrom],.agg rfl (λi v u h _=>by simp[jK]at h)⟩
 |sl hc hx tD hI tG=>
  rename_i x b o cap sz';cases he;by_cases DD:xs=[]
  .subst DD;obtain⟨us,h1,h2⟩:=JO (E:=E) (P:=P) (w:=w) (b:=b) (o:=o) (n:=0) (cs:=[]) rfl (λj c hc=>by simp at hc);exact⟨_,_,us,rfl,by simpa[Builtin.firstCells]using h1,h2⟩
  .have hz:sz'=sz:=by
    obtain⟨y,ys,rfl⟩:=List.exists_cons_of_ne_nil DD;rw[<-tD y sM];exact bF y sM
   subst hz
   obtain ⟨us,h1,h2⟩:=JO (E:=E) (P:=P) (w:=w) (b:=b) (o:=o) (n:=xs.length * sz') (cs:=jK xs) hlen (λk c hc=>by
    obtain⟨v,lR,rq⟩:=qeK bF h0 hc;have hi:=(br.1 lR).1;have hj:=Nat.mod_lt k h0;obtain⟨d,hd⟩:=KT.1 (hI (k/sz') (k%sz') hi hj);have e:o+k/sz'*sz'+k%sz'=o+k:=by rw[jU];congr 1;rw[Nat.mul_comm];exact Nat.div_add_mod k sz'
    refine⟨d,?_,tG _ v _ c d lR rq hd⟩;rw[<-e];exact hs.I _ _ _ hd)
   exact⟨_,_,us,rfl,by simpa[Builtin.firstCells]using h1,h2⟩
 |arr hr hN hc=>
  rename_i l off len cap st x;simp only[elems]at he;split at he<;>try cases he
  rename_i ys s wr wX;split at he<;>try cases he
  rename_i j0;obtain⟨c1,c2⟩:=j0;have qfL:=hs.fJ l _ wX;obtain⟨g1,g2,C,T,g3,g4,g5,g6⟩:=qfL.2.2 st x hr c1;have hl:((ys.drop off).take len).length=len:=by simp;omega
  rw[hl];by_cases DD:len=0
  .subst DD;obtain⟨us,h1,h2⟩:=JO (E:=E) (P:=P) (w:=w) (b:=x.b) (o:=off*x.sz) (n:=0) (cs:=[]) rfl (λj c hc=>by simp at hc);refine⟨_,_,us,rfl,by simpa[Builtin.firstCells]using h1,?_⟩;simpa[jK]using h2
  .have hz:x.sz=sz:=by
    rw[g2]
    have hm:ys[off]'oM∈(ys.drop off).take len:=by
     have:((ys.drop off).take len)[0]?=some (ys[off]'oM):=by
      rw[qx oM,qw];simp
     exact dZ this
    rw[<-bF _ hm];exact(qfL.2.1 _ (dz _)).symm
   obtain ⟨us,h1,h2⟩:=JO (E:=E) (P:=P) (w:=w) (b:=x.b) (o:=off * x.sz) (n:=len * sz) (cs:=jK ((ys.drop off).take len)) (by rw[hlen,hl]) (λk c hc=>by
    obtain⟨v,lR,rq⟩:=qeK bF h0 hc;have hi:k/sz<len:=by have:=(br.1 lR).1;omega
    rw[qx hi,qw]at lR;obtain⟨d,hd,jx⟩:=g6 (off+k/sz) v lR oM (k%sz) c rq;refine⟨d,?_,jx⟩;rw[H6 g3,<-hd];congr 1;rw[hz,jH,jU];congr 1;rw[Nat.mul_comm (k/sz)];exact(Nat.div_add_mod k sz).symm)
   exact⟨_,_,us,rfl,by simpa[Builtin.firstCells]using h1,h2⟩
 |_=>simp[elems]at he
def qeY:∀(r need c:Nat),c<2*need->256<=c->Builtin.growBy need r c<2*need
 |0,need,c,h,_=>by simpa[Builtin.growBy]using h
 |r+1,need,c,h,hc=>by
  simp only[Builtin.growBy];split
  .exact h
  .exact qeY r need _ oM oM
def qtM{need cap:Nat}(h:cap<need):Builtin.nextslicecap need cap<=2*need:=by
 unfold Builtin.nextslicecap;split
 .omega
 .split
  .omega
  .exact Nat.le_of_lt (qeY _ _ _ oM oM)
structure J8(P:Program)(ts:Array TypeId)(sz bytes:Nat):Prop where
 h:∃sT xT e e' i z,ts[0]?=some sT/\ts[1]?=some xT/\P.underlying sT=some (.slice e)/\P.underlying xT=some (.slice e')/\P.info? e=some i/\i.size=sz/\i.bytes=bytes/\i.zero=some z/\z.cells.size=sz/\0<sz/\0<bytes
def K2(P:aG)(ts:Array TypeId):Option (Nat×Nat):=
 match ts[0]?,ts[1]? with
 |some sT,some xT=>match P.underlying sT,P.underlying xT with
  |some (.slice e),some (.slice _)=>match P.info? e with
   |some i=>match i.zero with
    |some z=>if z.cells.size=i.size/\0<i.size/\0<i.bytes then some (i.size,i.bytes) else none
    |none=>none
   |none=>none
  |_,_=>none
 |_,_=>none
def qmv{P:aG}{ts:Array TypeId}{sz bytes:Nat}(h:K2 P ts=some (sz,bytes)):J8 P ts sz bytes:=by
 unfold K2 at h;split at h<;>try cases h
 rename_i sT xT h1 h2;split at h<;>try cases h
 rename_i e e' h3 h4;split at h<;>try cases h
 rename_i i h5;split at h<;>try cases h
 rename_i z h6;split at h<;>try cases h
 rename_i hc;exact⟨sT,xT,e,e',i,z,h1,h2,h3,h4,h5,rfl,rfl,h6,hc.1,hc.2.1,hc.2.2⟩
def qzR(z:Array Value)(n:Nat):(Builtin.zeroCells z n).size=n*z.size:=by simp[Builtin.zeroCells]
def qvD{P:aG}{ts:Array TypeId}{T:cC}{sz bytes len cap:Nat}{w:aP}{base a:Option Addr}{c:Nat}(ht:J8 P ts sz bytes)(iJ:len<=cap):
  (Builtin.append_ ts T #[.slice base len cap,.slice a 0 c]).run P w=.ok (.slice base len cap) w:=by
 obtain⟨sT,xT,e,e',i,z,h1,h2,h3,h4,h5,rfl,rfl,h6,h7,h8,h9⟩:=ht.h
 have hf:(Builtin.firstCells i.size 0 (.slice a 0 c)).run P w=.ok #[] w:=by
  cases a with
  |none=>simp[Builtin.firstCells]
  |some b=>simp[Builtin.firstCells,loadCells,loadCellsFrom]
 simp only[Builtin.append_,h1,h2,Builtin.lenOf];simp only[KH,EZ,CH,Sem.run_bind,fj h3,fj h4,rF h5,Result.andThen,Sem.run_pure,hf,Ar,iJ,if_true,mf,if_false,Ks];cases base<;>simp[storeCells,Result.andThen]
def qvC{P:aG}{ts:Array TypeId}{T t:cC}{sz bytes len cap n c b o:Nat}{w:aP}{a:Option Addr}{new C:Array Value}(ht:J8 P ts sz bytes)(iJ:len+n<=cap)
  (hn:(Builtin.firstCells sz n (.slice a n c)).run P w=.ok new w) (hb:w.heap[b]?=some (.cells C t (0,0))) (sd:o+len*sz+new.size<=C.size) (hf:∀u,u∈new.toList->Value.flat u=true):
  (Builtin.append_ ts T #[.slice (some ⟨b,o,none⟩) len cap,.slice a n c]).run P w=.ok (.slice (some ⟨b,o,none⟩) (len+n) cap) (World.put w b (over C (o+len*sz) new.toList) t):=by
 obtain⟨sT,xT,e,e',i,z,h1,h2,h3,h4,h5,rfl,rfl,h6,h7,h8,h9⟩:=ht.h;have hs:=YV (P:=P) (b:=b) (o:=o+len*i.size) new.toList 0 w C hb (by simpa using sd) hf;simp only[Builtin.append_,h1,h2,KH,EZ,CH,Sem.run_bind,fj h3,fj h4,rF h5,Result.andThen,Sem.run_pure,Builtin.lenOf,hn,iJ,if_true,mf,if_false,Ks,wm,hs,Ar]
def qjK{P:aG}{ts:Array TypeId}{T:cC}{sz bytes len cap n c:Nat}{w:aP}{base a:Option Addr}{kL new:Array Value}(ht:J8 P ts sz bytes)(iJ:cap<len+n)(M6:(len+n)*bytes<=2^47)
  (ho:(Builtin.firstCells sz len (.slice base len cap)).run P { w with drawn:=w.drawn+1 }=.ok kL { w with drawn:=w.drawn+1 })
  (hn:(Builtin.firstCells sz n (.slice a n c)).run P { w with drawn:=w.drawn+1 }=.ok new { w with drawn:=w.drawn+1 }):
  ∃(tN:Nat) (rest:Array Value) (t:cC),len+n<=tN/\rest.size=(tN-(len+n))*sz/\
   (Builtin.append_ ts T #[.slice base len cap,.slice a n c]).run P w=.ok (.slice (some ⟨w.heap.size,0,none⟩) (len+n) tN) { w with drawn:=w.drawn+1,heap:=w.heap.push (.cells (kL++new++rest) t (0,0)) }:=by
 obtain⟨sT,xT,e,e',i,z,h1,h2,h3,h4,h5,rfl,rfl,h6,h7,h8,h9⟩:=ht.h;have MU:=qtM iJ
 have hle:¬Builtin.nextslicecap (len+n) cap*i.bytes > 2^48:=by
  have:Builtin.nextslicecap (len+n) cap*i.bytes<=2*(len+n)*i.bytes:=vY _ MU;rw[Nat.mul_assoc]at this;omega
 have wV:¬(len+n<=cap):=oM
 let q:=Question.appendCap (len+n) cap e
 let tN:=q.cut (w.tape w.drawn q)
 have rj:(choose (.appendCap (len+n) cap e)).run P w=.ok tN { w with drawn:=w.drawn+1 }:=by
  simp[choose,Sem.run,Question.forced,tN,q]
 have zr:len+n<=tN:=by
  simp only[tN,q,Question.cut];omega
 refine⟨tN,Builtin.zeroCells z.cells (tN-(len+n)),e,zr,by rw[qzR,h7],?_⟩
 have qfb:∀(k:Nat) (v:aP),(askRoom k).run P v=.ok () v:=λk v=>by
  unfold askRoom;split<;>simp[mark,Sem.run,Sem.run_pure]
 have QM:¬((((len+n:Nat):Int) > IntKind.i64.max)/\(False\/i.bytes=0)):=by
  rintro⟨_,h|h⟩
  .exact h
  .omega
 simp only[Builtin.append_,h1,h2,KH,EZ,CH,Sem.run_bind,fj h3,fj h4,rF h5,SJ h5,Result.andThen,Sem.run_pure,Builtin.lenOf,wV,if_false,mf,Ks,if_true,hle,rj,qfb,ho,hn,yI h5 h6,G9];rw[au QM];simp only[Sem.run_bind,SJ h5,Result.andThen,hle,if_false,Sem.run_pure,rj,qfb,ho,hn,yI h5 h6,G9]
def fits(sz:Nat)(ys:List V):Bool:=ys.all λy=>y.size==sz&&y.cells.all V.flat
def FH{sz:Nat}{ys:List V}(h:fits sz ys=true):∀y,y∈ys->y.size=sz:=λy hy=>by
 simp only[fits,fR,cT,beq_iff_eq]at h;exact(h y hy).1
def qo0{sz:Nat}{ys:List V}(h:fits sz ys=true):∀c,c∈jK ys->c.flat=true:=λc hc=>by
 simp only[fits,fR,cT,beq_iff_eq]at h;obtain⟨y,hy,hc⟩:=yX.1 hc;exact(h y hy).2 c hc
def fV(S:St)(sz bytes:Nat)(d x:V):Option (V×St):=
 match elems S x with
 |none=>none
 |some ys=>match d with
  |.sl e xs=>if ys.isEmpty then some (d,S) else
   if e=true/\fits sz ys=true/\(xs.all λv=>v.size==sz)=true/\(xs.length+ys.length)*bytes<=2^47 then
    some (.arr S.length 0 (xs.length+ys.length) (xs.length+ys.length),S++[.arr (xs++ys) sz (xs.length+ys.length)]) else none
  |.arr l off len st=>match S[l]? with
   |some (.arr zs s wr)=>if off=0/\len=zs.length/\st=zs.length/\s=sz/\fits sz ys=true/\(zs.length+ys.length)*bytes<=2^47 then
     some (.arr l 0 (zs.length+ys.length) (zs.length+ys.length),S.set l (.arr (zs++ys) sz wr)) else none
   |_=>none
  |_=>none
def wq{E:En}{cs:List V}{us:Array Value}(h:VR E (.agg cs) (.agg us)):cs.length=us.size/\∀(i:Nat) (c:V),cs[i]?=some c->∃d,us[i]?=some d/\VR E c d:=by
 cases h with
 | agg h g=>exact ⟨h,λi c hc=>by
  have hi:i<us.size:=by rw[<-h];exact(br.1 hc).1
  exact⟨us[i],by simp[hi],g i c _ hc (by simp[hi])⟩⟩
def qeJ(xs ys:List V):jK (xs++ys)=jK xs++jK ys:=by simp[jK]
def qfN{E:En}{w:aP}{xs ys:List V}{sz:Nat}{kL new rest:Array Value}{b:Nat}{t:cC}(h0:0<sz)(hx:∀v,v∈xs->v.size=sz)(hy:∀v,v∈ys->v.size=sz)
  (ho:VR E (.agg (jK xs)) (.agg kL)) (hn:VR E (.agg (jK ys)) (.agg new)) (hb:w.heap[b]?=some (.cells (kL++new++rest) t (0,0))):
  ES E w ⟨b,(kL++new++rest).size,sz⟩ (xs++ys) (xs.length+ys.length):=by
 obtain⟨o1,o2⟩:=wq ho;obtain⟨n1,n2⟩:=wq hn
 have yq:∀v,v∈xs++ys->v.cells.length=sz:=λv hv=>by
  rcases cU.1 hv with hv|hv
  .exact hx v hv
  .exact hy v hv
 have lx:=uP (xs:=xs) (sz:=sz) hx;have ly:=uP (xs:=ys) (sz:=sz) hy;refine⟨_,t,hb,rfl,?_,λi v hv hi j c hc=>?_⟩
 .simp only[Array.size_append];rw[<-o1,<-n1,lx,ly,jH];omega
 .show ∃e,(kL++new++rest)[i*sz+j]?=some e/\VR E c e
  have hj:j<sz:=by
   have:=(br.1 hc).1;rw[yq v (dZ hv)]at this;exact this
  have hf:=Qm yq hv hj;rw[hc,qeJ]at hf;by_cases hk:i*sz+j<(jK xs).length
  .rw[dh hk]at hf;obtain⟨d,hd,hr⟩:=o2 _ _ hf;refine⟨d,?_,hr⟩;rw[OV,Cf oM];exact hd
  .rw[cx oM]at hf;obtain⟨d,hd,hr⟩:=n2 _ _ hf;have aB:=(kQ.1 hd).1;refine⟨d,?_,hr⟩;rw[OV,J9 oM,Cf oM,<-hd];congr 1;omega
def qmE{E:En}{l st:Nat}{x:qq}(h:∀y,E.ρ l st=some y->y=x):E.le (E.at l st x):=
 ⟨λ_ _ _ h=>h,λl' bc y hy=>by
  by_cases hk:l'=l/\bc=st
  .obtain⟨rfl,rfl⟩:=hk;rw[h y hy];simp[En.at]
  .simp[En.at,hk];exact hy⟩
def qv0{E:En}{S S':St}{P:aG}{w:aP}{d x r:V}{u a:Value}{ts:Array TypeId}{T:cC}{sz bytes:Nat}(hs:SR E S w)(ht:J8 P ts sz bytes)(hd:VR E d u)(hx:VR E x a)(h:fV S sz bytes d x=some (r,S')):
  dw P E S w (Builtin.append_ ts T #[u,a]) r S':=by
 have h0:0<sz:=by obtain⟨_,_,_,_,_,_,_,_,_,_,_,_,_,_,_,h,_⟩:=ht.h;exact h
 unfold fV at h;split at h<;>try cases h
 rename_i ys pz;have bw:SR E S { w with drawn:=w.drawn+1 }:=hs.heap rfl;split at h
 .rename_i e xs;split at h
  .rename_i WJ;cases h;have DO:ys=[]:=by simpa using WJ
   subst DO;obtain⟨b,c,us,rfl,_,_⟩:=G8 (P:=P) (sz:=sz) hs hx pz sM h0
   have iJ:∃base cap,u=.slice base xs.length cap/\xs.length<=cap:=by
    cases hd with
    |slnil x=>exact⟨none,0,rfl,sM⟩
    |pL x a=>exact⟨some a,0,rfl,sM⟩
    |sl hc=>exact⟨_,_,rfl,hc⟩
   obtain⟨base,cap,rfl,hc⟩:=iJ;exact dw.pure hs (qvD ht hc) hd
  .rename_i WJ;split at h<;>try cases h
   rename_i hc;obtain⟨rfl,hf,sC,M6⟩:=hc;have Ri:∀v,v∈xs->v.size=sz:=λv hv=>by simp only[fR,beq_iff_eq]at sC;exact sC v hv
   have tI:=FH hf
   have bZ:0<ys.length:=by
    cases ys with
    |nil=>simp at WJ
    |cons y ys=>simp
   obtain⟨b,c,us,rfl,hn,oN⟩:=G8 (P:=P) (sz:=sz) bw hx pz tI h0;obtain⟨b',c',Aa,rfl,ho,fC⟩:=G8 (P:=P) (sz:=sz) bw hd (xs:=xs) rfl Ri h0
   have iJ:c'<xs.length+ys.length:=by
    cases hd with
    |slnil x=>simp;exact bZ
    |pL x a=>simp;exact bZ
    |sl hc hx=>rw[hx rfl];omega
   obtain⟨tN,rest,t,MU,DG,fN⟩:=qjK (T:=T) ht iJ M6 ho hn
   have cB:∀st,E.ρ S.length st=none:=λst=>by
    cases hr:E.ρ S.length st with
    |none=>rfl
    |some y=>exact absurd (hs.jI _ _ _ hr) oM
   obtain ⟨n1,n2⟩:=bw.new (o:=.cells (Aa++us++rest) t (0,0)) (ob:=.arr (xs++ys) sz (xs.length+ys.length)) (st:=xs.length+ys.length) (N:=(Aa++us++rest).size) (sz:=sz) (by
    refine⟨⟨h0,sM⟩,λv hv=>?_,λst y hy bg=>?_⟩
    .rcases cU.1 hv with hv|hv
     .exact Ri v hv
     .exact tI v hv
    .by_cases bw:st=xs.length+ys.length
     .subst bw;rw[ml]at hy;cases hy;exact⟨sM,rfl,qfN h0 Ri tI (fC.mono (xR (cB _))) (oN.mono (xR (cB _))) G3⟩
     .exfalso;simp only[En.at]at hy;rw[au (by simp;exact bw),cB]at hy;cases hy)
   refine⟨_,_,_,fN,?_,n1,(bT.heap S.length (w:=w) (w':={ w with drawn:=w.drawn+1 }) rfl rfl).trans n2,sM⟩;have DJ:=(wq fC).1;have Nc:=(wq oN).1;rw[uP Ri]at DJ;rw[uP tI]at Nc
   have:=VR.arr (E:=E.at S.length (xs.length+ys.length) ⟨w.heap.size,(Aa++us++rest).size,sz⟩) (l:=S.length) (off:=0) (len:=xs.length+ys.length) (cap:=tN) (st:=xs.length+ys.length) ml (by
    simp only[Array.size_append];rw[<-DJ,<-Nc,DG,<-jH,<-jH];exact vY _ oM) MU
   simpa using this
 .rename_i l off len st;split at h<;>try cases h
  rename_i zs s wr wX;split at h<;>try cases h
  rename_i hc;obtain⟨rfl,rfl,rfl,rfl,hf,M6⟩:=hc;have tI:=FH hf
  have qqF:elems S (.arr l 0 zs.length zs.length)=some zs:=by
   obtain⟨⟨_,hw⟩,_⟩:=hs.fJ l _ wX;simp[elems,wX,hw]
  obtain⟨⟨_,hw⟩,vn,bg⟩:=hs.fJ l _ wX;have gX:gQ S l:=⟨_,wX,sM⟩
  cases hd with
  |arr hr hN im=>
   rename_i cap y;obtain⟨_,Jj,C,t,g3,g4,g5,g6⟩:=bg _ y hr hw;have hlen:∀bc z,E.ρ l bc=some z->wr<=bc->bc<=zs.length:=λbc z hz Nj=>(bg bc z hz Nj).1
   have MV:ys≠[]->E.ρ l (zs.length+ys.length)=none:=λbZ=>by
    cases jx:E.ρ l (zs.length+ys.length) with
    |none=>rfl
    |some z=>
     have:=hlen _ z jx oM;have:0<ys.length:=List.length_pos_iff.2 bZ;omega
   by_cases iJ:zs.length+ys.length<=cap
   .obtain⟨b,c,us,rfl,hn,oN⟩:=G8 (P:=P) (sz:=s) hs hx pz tI h0;have mQ:=(wq oN).1;rw[uP tI]at mQ;have hb:y.b<w.heap.size:=(kQ.1 g3).1
    have sd:0*y.sz+zs.length*s+us.size<=C.size:=by
     rw[<-mQ,g4,Jj];have:(zs.length+ys.length)*s<=(0+cap)*y.sz:=by rw[Jj,mg];exact vY _ iJ
     rw[jH]at this;omega
    have qqK:∀v,v∈us.toList->Value.flat v=true:=λv hv=>by
     obtain⟨i,hi,he⟩:=xF hv;simp at hi;have eI:i<(jK ys).length:=by rw[uP tI];omega
     obtain⟨d,hd,hr⟩:=(wq oN).2 i (jK ys)[i] (by simp[eI])
     have:d=v:=by
      have e1:us[i]?=some us[i]:=by simp[hi]
      rw[e1]at hd;cases hd;rw[<-he];simp
     subst this;exact hr.flat (qo0 hf _ (dz eI))
    have fN:=qvC (T:=T) ht iJ hn g3 sd qqK
    have hle:E.le (E.at l (zs.length+ys.length) y):=qmE λz hz=>by
     by_cases bZ:ys=[]
     .subst bZ;simp at hz;rw[hr]at hz;cases hz;rfl
     .rw[MV bZ]at hz;cases hz
    have zr:OR (E.at l (zs.length+ys.length) y) (World.put w y.b (over C (0*y.sz+zs.length*s) us.toList) t) l (.arr (zs++ys) s wr):=by
     have dq:∀v,v∈zs++ys->v.cells.length=s:=λv hv=>by
      rcases cU.1 hv with hv|hv
      .exact vn v hv
      .exact tI v hv
     refine⟨⟨h0,by simp;omega⟩,dq,λbc z hz Nj=>?_⟩;by_cases hk:bc=zs.length+ys.length
     .subst hk;rw[ml]at hz;cases hz;refine⟨sM,Jj,_,t,Su hb,by rw[JG];exact g4,by rw[Jj,<-g4];rw[jH,mQ];omega,λi v hv hi j c hc=>?_⟩
      have hj:j<s:=by
       have:=(br.1 hc).1;rw[dq v (dZ hv)]at this;exact this
      rw[G0 _ _ _ _ (by simpa using sd),Jj];have WQ:=Qm dq hv hj;rw[hc,qeJ]at WQ;have lz:=uP (xs:=zs) (sz:=s) vn;by_cases jP:i*s+j<zs.length*s
      .rw[au oM];have QX:i<zs.length:=Nat.lt_of_mul_lt_mul_right (a:=s) oM;rw[dh QX]at hv;obtain⟨d,jb,jO⟩:=g6 i v hv QX j c hc;exact⟨d,by rw[Jj]at jb;exact jb,jO.mono hle⟩
      .rw[cx oM,lz]at WQ;obtain⟨d,jb,jO⟩:=(wq oN).2 _ _ WQ;have aB:=(kQ.1 jb).1;rw[ak (by simp;omega)];exact⟨d,by simpa using jb,jO.mono hle⟩
     .have sD:E.ρ l bc=some z:=by
       simp only[En.at]at hz;rw[au (by simp;exact hk)]at hz;exact hz
      obtain⟨k1,k2,D,t',k3,k4,k5,k6⟩:=bg bc z sD Nj;refine⟨by simp;omega,k2,?_⟩;by_cases Nq:z.b=y.b
      .rw[Nq]at k3;rw[g3]at k3;cases k3;refine⟨_,t,by rw[Nq];exact Su hb,by rw[JG];exact k4,k5,λi v hv hi j c hc=>?_⟩;have QX:i<zs.length:=oM;rw[dh QX]at hv
       have hj:j<s:=by
        have:=(br.1 hc).1;rw[vn v (dZ hv)]at this;exact this
       obtain⟨d,jb,jO⟩:=k6 i v hv hi j c hc;have hm:(i+1)*s<=zs.length*s:=vY _ oM;rw[jH]at hm;rw[G0 _ _ _ _ (by simpa using sd),k2,au oM];exact⟨d,by rw[k2]at jb;exact jb,jO.mono hle⟩
      .refine⟨D,t',by rw[YL Nq];exact k3,k4,k5,λi v hv hi j c hc=>?_⟩;rw[dh oM]at hv;obtain⟨d,jb,jO⟩:=k6 i v hv hi j c hc;exact⟨d,jb,jO.mono hle⟩
    have rj:=hs.change (E':=E.at l (zs.length+ys.length) y) (w':=World.put w y.b (over C (0 * y.sz+zs.length * s) us.toList) t) gX rfl hle (λl' bc cj=>wu cj) (λbc z hz=>by
      by_cases hk:bc=zs.length+ys.length
      .subst hk;rw[ml]at hz;cases hz;exact .inl ⟨_,_,hr,rfl⟩
      .simp only[En.at]at hz;rw[au (by simp;exact hk)]at hz;exact .inl ⟨_,_,hz,rfl⟩) (by rw[qjr];exact dl _)
     (λb' _ cB=>YL (λe=>cB _ _ hr e.symm)) rfl zr
    refine⟨_,_,_,fN,?_,rj.1,rj.2,sM⟩;have:=VR.arr (E:=E.at l (zs.length+ys.length) y) (l:=l) (off:=0) (len:=zs.length+ys.length) (cap:=cap) (st:=zs.length+ys.length) ml hN iJ;exact this
   .have bZ:ys≠[]:=by rintro rfl;simp at iJ;omega
    obtain⟨b,c,us,rfl,hn,oN⟩:=G8 (P:=P) (sz:=s) bw hx pz tI h0;obtain⟨b',c',Aa,uT,ho,fC⟩:=G8 (P:=P) (sz:=s) bw (VR.arr hr hN im) qqF vn h0;cases uT;obtain⟨tN,rest,t',MU,DG,fN⟩:=qjK (T:=T) ht oM M6 ho hn;have DJ:=(wq fC).1;have Nc:=(wq oN).1;rw[uP vn]at DJ;rw[uP tI]at Nc;have hle:E.le (E.at l (zs.length+ys.length) ⟨w.heap.size,(Aa++us++rest).size,s⟩):=xR (MV bZ)
    have dq:∀v,v∈zs++ys->v.cells.length=s:=λv hv=>by
     rcases cU.1 hv with hv|hv
     .exact vn v hv
     .exact tI v hv
    have zr:OR (E.at l (zs.length+ys.length) ⟨w.heap.size,(Aa++us++rest).size,s⟩) { w with drawn:=w.drawn+1,heap:=w.heap.push (.cells (Aa++us++rest) t' (0,0)) } l (.arr (zs++ys) s wr):=by
     refine⟨⟨h0,by simp;omega⟩,dq,λbc z hz Nj=>?_⟩;by_cases hk:bc=zs.length+ys.length
     .subst hk;rw[ml]at hz;cases hz;exact⟨sM,rfl,qfN (t:=t') h0 vn tI (fC.mono hle) (oN.mono hle) sM⟩
     .have sD:E.ρ l bc=some z:=by
       simp only[En.at]at hz;rw[au (by simp;exact hk)]at hz;exact hz
      obtain⟨k1,k2,D,t2,k3,k4,k5,k6⟩:=bg bc z sD Nj;have qAE:z.b<w.heap.size:=(kQ.1 k3).1;refine⟨by simp;omega,k2,D,t2,by simp only[xA];rw[au oM];exact k3,k4,k5,λi v hv hi j c hc=>?_⟩;rw[dh oM]at hv;obtain⟨d,jb,jO⟩:=k6 i v hv hi j c hc;exact⟨d,jb,jO.mono hle⟩
    have rj:=hs.change (E':=E.at l (zs.length+ys.length) ⟨w.heap.size,(Aa++us++rest).size,s⟩) (w':={ w with drawn:=w.drawn+1,heap:=w.heap.push (.cells (Aa++us++rest) t' (0,0)) }) gX rfl hle (λl' bc cj=>wu cj) (λbc z hz=>by
      by_cases hk:bc=zs.length+ys.length
      .subst hk;rw[ml]at hz;cases hz;exact .inr ⟨dl _,by show w.heap.size<(w.heap.push _).size;simp,_,_,hr⟩
      .simp only[En.at]at hz;rw[au (by simp;exact hk)]at hz;exact .inl ⟨_,_,hz,rfl⟩) sM
     (λb' kE _=>by simp only[xA];rw[au oM]) rfl zr
    refine⟨_,_,_,fN,?_,rj.1,rj.2,sM⟩
    have:=VR.arr (E:=E.at l (zs.length+ys.length) ⟨w.heap.size,(Aa++us++rest).size,s⟩) (l:=l) (off:=0) (len:=zs.length+ys.length) (cap:=tN) (st:=zs.length+ys.length) ml (by
     simp only[Array.size_append];rw[<-DJ,<-Nc,DG,<-jH,<-jH];exact vY _ oM) MU
    simpa using this
 .cases h
def qvJ{α β:Type}{P:aG}{w:aP}{f:α->Sem β}{g:α->β}{xs:Array α}(h:∀x,x∈xs.toList->(f x).run P w=.ok (g x) w):(xs.mapM f).run P w=.ok (xs.map g) w:=by
 have key:∀(l:List α) (acc:Array β),(∀x,x∈l->(f x).run P w=.ok (g x) w)->
   (l.foldlM (λ(acc:Array β) a=>do let b <-f a;pure (acc.push b)) acc).run P w=.ok (acc++(l.map g).toArray) w:=by
  intro l
  induction l with
  |nil=>intro acc _;simp
  |cons x l ih=>
   intro acc h;simp only[List.foldlM_cons,Sem.run_bind,h x sM,Result.andThen,Sem.run_pure];rw[ih _ (λy hy=>h y (by simp[hy]))];simp
 rw[Array.mapM_eq_foldlM_push,<-Array.foldlM_toList,key xs.toList #[] h];simp only[Array.empty_append];congr 1;apply HD.1;simp
def bP:V->List (Nat×Nat×V)->Option V
 |z,[]=>some z
 |z,(off,n,x)::ps=>(z.fZ off n x).bind λz'=>bP z' ps
def Qn:∀(us:List Value) (k:Nat) (C:Array Value) (off:Nat),(us.zipIdx k).foldl (λcs (x:Value×Nat)=>cs.setIfInBounds (off+x.2) x.1) C=over C (off+k) us
 |[],_,_,_=>rfl
 |u::us,k,C,off=>by
  simp only[List.zipIdx_cons,uD,over];rw[Qn us (k+1) _ off];rfl
def VL{E:En}{place:Nat->Option (Nat×Nat)}:∀(ps:List (Nat×Nat×Nat×V)) (us:List (Nat×Value)) (z r:V) (C:Array Value),ps.length=us.length->
  (∀(i:Nat) (p:Nat×Nat×Nat×V) (u:Nat×Value),ps[i]?=some p->us[i]?=some u->p.1=u.1/\place p.1=some (p.2.1,p.2.2.1)/\VR E p.2.2.2 u.2)->z.isAgg=true->VR E z (.agg C)->
  bP z (ps.map λp=>p.2)=some r->(∀p,p∈ps->¬(p.2.1=0/\p.2.2.1=z.size))->∃D,Instr.fill place C us=some D/\VR E r (.agg D)
 |[],us,z,r,C,hl,_,_,hz,h,_=>by
  have:us=[]:=Po.1 hl.symm;subst this;simp only[nK,bP]at h;cases h;exact⟨C,rfl,hz⟩
 |(f,off,n,x)::ps,us,z,r,C,hl,hp,AU,hz,h,bZ=>by
  cases us with
  |nil=>simp at hl
  |cons u us=>
   simp only[cQ,bP]at h
   cases hu:z.fZ off n x with
   |none=>rw[hu]at h;cases h
   |some z'=>
    rw[hu]at h;simp only[gG]at h;obtain⟨p1,p2,p3⟩:=hp 0 _ _ rfl rfl;obtain⟨u1,u2,u3,u4,u5⟩:=qk6 hu;simp only at p1 p2 p3;obtain⟨c1,c2⟩:=p3.cells (uO u2);obtain⟨z1,z2⟩:=hz.cells (by rintro rfl;simp[V.isAgg]at AU);have hC:(Value.agg C).cells=C:=rfl;rw[hC]at z1 z2;have mQ:u.2.cells.size=n:=by rw[<-c1];exact u1
    have qfa:z'.isAgg=true:=by
     have qrc:=bZ (f,off,n,x) sM;unfold V.fZ at hu;rw[ak ⟨u1,u2⟩,au qrc]at hu;split at hu
     .split at hu<;>cases hu;rfl
     .cases hu
    have sD:VR E z' (.agg (over C off u.2.cells.toList)):=by
     have:∃cs,z'=.agg cs:=by cases z'<;>simp[V.isAgg]at qfa;exact⟨_,rfl⟩
     obtain⟨cs,rfl⟩:=this;have e:(V.agg cs).cells=cs:=rfl;rw[e]at u4 u5;refine .agg (by rw[JG];omega) λj v d hv hd=>?_
     rw[G0 _ _ _ _ (by simp;omega)]at hd;rw[u5]at hv;simp only[yT,mQ]at hd;by_cases jP:off<=j/\j<off+n
     .rw[ak jP]at hd hv;exact c2 _ _ _ hv (by simpa using hd)
     .rw[au jP]at hd hv;exact z2 j v d hv hd
    obtain⟨D,hD,hr⟩:=VL ps us z' r (over C off u.2.cells.toList) (by simpa using hl) (λi p q hi hj=>hp (i+1) p q (by simpa using hi) (by simpa using hj)) qfa sD h
     (λp hp=>by rw[V.size,u4];exact bZ p (by simp[hp]))
    refine⟨D,?_,hr⟩
    have XG:u.2.cells.zipIdx.foldl (λcs (x:Value×Nat)=>cs.setIfInBounds (off+x.2) x.1) C=over C off u.2.cells.toList:=by
     rw[<-OW,Array.toList_zipIdx,Qn];rfl
    obtain⟨u0,uv⟩:=u;simp only at p1 p2 mQ XG hD;subst p1;simp only[Instr.fill,p2,mQ];rw[au (by simp;omega)];rw[<-hD];congr 1
def Ho(P:aG)(t:cC):Option (List (Nat×Nat)):=
 match P.underlying t with
 |some (.struct fs)=>fs.toList.mapM λf=>(P.info? f.type).map λi=>(f.offset,i.size)
 |some (.array n e)=>if n<=64 then(P.info? e).map λi=>(List.range n).map λj=>(j*i.size,i.size) else none
 |_=>none
def qjO{P:aG}{w:aP}{fs:Array Field}{l:List (Nat×Nat)}(h:(fs.toList.mapM λf=>(P.info? f.type).map λi=>(f.offset,i.size))=some l):
  (fs.mapM λf=>do pure (f.offset,<-sizeOf f.type):Sem (Array (Nat×Nat))).run P w=.ok l.toArray w:=by
 have h1:l=fs.toList.map λf=>(f.offset,P.cellsOf f.type):=by
  have:∀(fs:List Field) (l:List (Nat×Nat)),(fs.mapM λf=>(P.info? f.type).map λi=>(f.offset,i.size))=some l->l=fs.map λf=>(f.offset,P.cellsOf f.type):=by
   intro fs
   induction fs with
   |nil=>intro l h;simp at h;simp[h]
   |cons f fs ih=>
    intro l h;simp only[vW,wc]at h
    cases hi:P.info? f.type with
    |none=>rw[hi]at h;simp at h
    |some i=>
     rw[hi]at h;simp only[fG,gG]at h
     cases hr:(fs.mapM λf=>(P.info? f.type).map λi=>(f.offset,i.size)) with
     |none=>rw[hr]at h;simp at h
     |some r=>
      rw[hr]at h;simp at h;subst h;simp[Program.cellsOf,hi,ih r hr]
  exact this _ _ h
 have h2:∀f,f∈fs.toList->∃i,P.info? f.type=some i:=by
  intro f hf
  cases hi:P.info? f.type with
  |some i=>exact⟨i,rfl⟩
  |none=>
   exfalso
   have:∀(fs:List Field) (l:List (Nat×Nat)),f∈fs->(fs.mapM λf=>(P.info? f.type).map λi=>(f.offset,i.size))=some l->False:=by
    intro fs
    induction fs with
    |nil=>intro l hm;simp at hm
    |cons g fs ih=>
     intro l hm h;simp only[vW,wc]at h;rcases dU.1 hm with rfl|hm
     .rw[hi]at h;simp at h
     .cases hg:P.info? g.type with
      |none=>rw[hg]at h;simp at h
      |some i=>
       rw[hg]at h;simp only[fG,gG]at h
       cases hr:(fs.mapM λf=>(P.info? f.type).map λi=>(f.offset,i.size)) with
       |none=>rw[hr]at h;simp at h
       |some r=>exact ih r hm hr
   exact this _ _ hf h
 rw[qvJ (g:=λf=>(f.offset,P.cellsOf f.type)) (λf hf=>by
  obtain⟨i,hi⟩:=h2 f hf;simp only[Sem.run_bind,rF hi,Result.andThen,Sem.run_pure];simp[Program.cellsOf,hi])]
 rw[h1];congr 1;apply HD.1;simp
def qv3{E:En}{S:St}{P:aG}{w:aP}{t:cC}{i:TypeInfo}{zv:Value}{z r:V}{ps:List (Nat×Nat×Nat×V)}{us:Array (Nat×Value)}{l:List (Nat×Nat)}(hs:SR E S w)(hi:P.info? t=some i)(hz:i.zero=some zv)
  (hl:Ho P t=some l) (XH:VR E z zv) (vn:z.isAgg=true) (hlen:ps.length=us.size)
  (hp:∀(j:Nat) (p:Nat×Nat×Nat×V) (u:Nat×Value),ps[j]?=some p->us[j]?=some u->p.1=u.1/\l[p.1]?=some (p.2.1,p.2.2.1)/\VR E p.2.2.2 u.2)
  (bZ:∀p,p∈ps->¬(p.2.1=0/\p.2.2.1=z.size)) (h:bP z (ps.map λp=>p.2)=some r):
  dw P E S w (Instr.build t us) r S:=by
 obtain⟨C,rfl⟩:∃C,zv=.agg C:=by
  cases z<;>simp[V.isAgg]at vn;cases XH;exact⟨_,rfl⟩
 unfold Ho at hl;split at hl<;>try cases hl
 case h_2 n e hu=>
  split at hl<;>try cases hl
  cases tu:P.info? e with
  |none=>rw[tu]at hl;cases hl
  |some ie=>
   rw[tu]at hl;simp only[fG,Option.some.injEq]at hl
   obtain ⟨D,hD,hr⟩:=VL (place:=λi=>some (i * ie.size,ie.size)) ps us.toList z r C (by simpa using hlen) (λj p u h1 h2=>by
    obtain⟨a,b,c⟩:=hp j p u h1 (by simpa using h2);refine⟨a,?_,c⟩;rw[<-hl,dS,ep]at b;obtain⟨q,hq,Xf⟩:=b;rw[br]at hq;obtain⟨_,hq⟩:=hq;rw[List.getElem_range]at hq;subst hq;simpa using Xf) vn XH h bZ
   refine dw.pure hs ?_ hr;simp only[Instr.build,Sem.run_bind,yI hi hz,Result.andThen,fj hu,rF tu];have hC:(Value.agg C).cells=C:=rfl;rw[hC,hD];simp
 rename_i fs hu;obtain⟨D,hD,hr⟩:=VL (place:=λi=>l[i]?) ps us.toList z r C (by simpa using hlen) (λj p u h1 h2=>hp j p u h1 (by simpa using h2)) vn XH h bZ;refine dw.pure hs ?_ hr;simp only[Instr.build,Sem.run_bind,yI hi hz,Result.andThen,fj hu,qjO hl];have e:(λ(x:Nat)=>l.toArray[x]?)=λ(x:Nat)=>l[x]?:=by funext x;simp
 have hC:(Value.agg C).cells=C:=rfl;rw[e,hC,hD];simp
def qwp{E:En}{S:St}{P:aG}{w:aP}{t:cC}{i:TypeInfo}{zv:Value}{n j:Nat}{x:V}{u:Value}{l:List (Nat×Nat)}(hs:SR E S w)(hi:P.info? t=some i)(hz:i.zero=some zv)(Rl:zv.cells.size=n)
  (hl:Ho P t=some l) (hj:l[j]?=some (0,n)) (hx:VR E x u) (hn:x.size=n) (hf:(x.cells.all V.flat)=true):dw P E S w (Instr.build t #[(j,u)]) (.agg x.cells) S:=by
 obtain⟨c1,c2⟩:=hx.cells (uO hf);have mQ:u.cells.size=n:=by rw[<-c1];exact hn
 have yn:u.cells.zipIdx.foldl (λcs (q:Value×Nat)=>cs.setIfInBounds (0+q.2) q.1) zv.cells=u.cells:=by
  rw[<-OW,Array.toList_zipIdx,Qn];apply HB;intro k;have hlen:u.cells.toList.length=zv.cells.size:=by rw[yT,mQ,Rl]
  rw[G0 _ _ _ _ oM];split
  .simp
  .rename_i hk;rw[HC oM,HC (by rw[mQ,<-Rl,<-hlen];omega)]
 have MB:∀place:Nat->Option (Nat×Nat),place j=some (0,n)->Instr.fill place zv.cells [(j,u)]=some u.cells:=by
  intro place hp;simp only[Instr.fill,hp];rw[au (by simp;omega)];exact mn some yn
 have dH:VR E (.agg x.cells) (.agg u.cells):=.agg c1 c2;unfold Ho at hl;split at hl<;>try cases hl
 .rename_i fs hu;refine dw.pure hs ?_ dH;simp only[Instr.build,Sem.run_bind,yI hi hz,Result.andThen,fj hu,qjO hl];rw[MB _ (by simpa using hj)];simp
 .rename_i m e hu;split at hl<;>try cases hl
  cases tu:P.info? e with
  |none=>rw[tu]at hl;cases hl
  |some ie=>
   rw[tu]at hl;simp only[fG,Option.some.injEq]at hl
   have hpj:(some (j*ie.size,ie.size):Option (Nat×Nat))=some (0,n):=by
    rw[<-hl,dS,ep]at hj;obtain⟨q,hq,Xf⟩:=hj;rw[br]at hq;obtain⟨_,hq⟩:=hq;rw[List.getElem_range]at hq;subst hq;simpa using Xf
   refine dw.pure hs ?_ dH;simp only[Instr.build,Sem.run_bind,yI hi hz,Result.andThen,fj hu,rF tu];rw[MB (λi=>some (i*ie.size,ie.size)) hpj];simp
def qhu:∀(us vs:List Value) (C:Array Value) (o:Nat),over (over C o us) (o+us.length) vs=over C o (us++vs)
 |[],vs,C,o=>by simp[over]
 |u::us,vs,C,o=>by
  simp only[over,dR,gq];rw[<-qhu us vs,show o+(us.length+1)=o+1+us.length by omega]
def qeA{sz:Nat}:∀(us:List (Nat×Value)) (k:Nat) (C:Array Value),(∀(i:Nat) (u:Nat×Value),us[i]?=some u->u.1=k+i/\u.2.cells.size=sz)->(k+us.length)*sz<=C.size->
  Instr.fill (λi=>some (i*sz,sz)) C us=some (over C (k*sz) (us.flatMap λu=>u.2.cells.toList))
 |[],k,C,_,_=>rfl
 |u::us,k,C,h,hs=>by
  obtain⟨u0,uv⟩:=u;obtain⟨h1,h2⟩:=h 0 _ rfl;simp only[Ar]at h1 h2;subst h1;have hm:(u0+(us.length+1))*sz=u0*sz+sz+us.length*sz:=by rw[jH,jH,Nat.one_mul];omega
  rw[gq,hm]at hs
  have XG:uv.cells.zipIdx.foldl (λcs (x:Value×Nat)=>cs.setIfInBounds (u0*sz+x.2) x.1) C=over C (u0*sz) uv.cells.toList:=by
   rw[<-OW,Array.toList_zipIdx,Qn];rfl
  simp only[Instr.fill,h2];rw[au (by simp;omega)];have hz4:(uv.cells.zipIdx.foldl (λ(cs:Array Value) (x:Value×Nat)=>match x with|(c,j)=>cs.setIfInBounds (u0*sz+j) c) C)=over C (u0*sz) uv.cells.toList:=XG
  rw[hz4,qeA us (u0+1) _ (λi u hu=>by
   obtain⟨a,b⟩:=h (i+1) u (by simpa using hu);exact⟨oM,b⟩) (by rw[JG,jH,jH,Nat.one_mul];omega)]
  simp only[nl];rw[<-qhu,yT,h2,show(u0+1)*sz=u0*sz+sz by rw[jH];omega]
def que{C:Array Value}{us:List Value}(h:us.length=C.size):over C 0 us=us.toArray:=by
 apply HB;intro i;rw[G0 _ _ _ _ oM];by_cases hi:i<us.length
 .rw[ak ⟨oM,oM⟩];simp
 .rw[au oM,HC oM,HC (by simp;omega)]
structure qcO(P:Program)(t:TypeId)(sz:Nat):Prop where
 h:∃e i z,P.underlying t=some (.slice e)/\P.info? e=some i/\i.size=sz/\i.zero=some z
def Zg(P:aG)(t:cC):Option Nat:=
 match P.underlying t with
 |some (.slice e)=>match P.info? e with
  |some i=>if i.zero.isSome=true then some i.size else none
  |none=>none
 |_=>none
def qwE{P:aG}{t:cC}{sz:Nat}(h:Zg P t=some sz):qcO P t sz:=by
 unfold Zg at h;split at h<;>try cases h
 rename_i e h1;split at h<;>try cases h
 rename_i i h2;split at h<;>try cases h
 rename_i h3;obtain⟨z,hz⟩:=KT.1 h3;exact⟨e,i,z,h1,h2,rfl,hz⟩
def qeG{E:En}{sz:Nat}:∀(xs:List V) (us:List Value),xs.length=us.length->(∀(i:Nat) (x:V) (u:Value),xs[i]?=some x->us[i]?=some u->VR E x u)->fits sz xs=true->
  VR E (.agg (jK xs)) (.agg (us.flatMap λu=>u.cells.toList).toArray)/\(∀u,u∈us->u.cells.size=sz)
 |[],us,hl,_,_=>by
  have:us=[]:=Po.1 hl.symm;subst this;exact⟨.agg rfl λi v u h _=>by simp[jK]at h,sM⟩
 |x::xs,us,hl,h,hf=>by
  cases us with
  |nil=>simp at hl
  |cons u us=>
   have hxu:=h 0 x u rfl rfl;simp only[fits,Ak,cT,beq_iff_eq]at hf;obtain⟨⟨f1,f2⟩,f3⟩:=hf;obtain⟨i1,i2⟩:=qeG xs us (by simpa using hl) (λi y v hy hv=>h (i+1) y v (by simpa using hy) (by simpa using hv)) f3;obtain⟨c1,c2⟩:=hxu.cells (uO f2);obtain⟨g1,g2⟩:=wq i1;have mQ:u.cells.size=sz:=by rw[<-c1];exact f1
   refine⟨?_,λv hv=>?_⟩
   .refine .agg (by simp only[jK,nl,dx,KO,yT]at *;omega) λi v d hv hd=>?_
    simp only[jK,nl]at hv;simp only[nl,KH]at hd;by_cases hi:i<x.cells.length
    .rw[dh hi]at hv;rw[dh (by simp;omega)]at hd;exact c2 i v d hv (by simpa using hd)
    .rw[cx oM]at hv;rw[cx (by simp;omega)]at hd;obtain⟨e,he,hr⟩:=g2 _ v hv;simp only[KH]at he;rw[yT,<-c1]at hd;rw[hd]at he;cases he;exact hr
   .rcases dU.1 hv with rfl|hv
    .exact mQ
    .exact i2 v hv
def qv2{E:En}{S:St}{P:aG}{w:aP}{t:cC}{sz:Nat}{xs:List V}{us:Array (Nat×Value)}(hs:SR E S w)(ht:qcO P t sz)(hl:xs.length=us.size)
  (h:∀(i:Nat) (x:V) (u:Nat×Value),xs[i]?=some x->us[i]?=some u->u.1=i/\VR E x u.2) (hf:fits sz xs=true) (M6:xs.length*sz<=2^24):
  dw P E S w (Instr.buildSlice t xs.length us) (.sl true xs) S:=by
 obtain⟨e,i,z,t1,t2,rfl,t3⟩:=ht.h
 obtain ⟨f1,f2⟩:=qeG (E:=E) xs (us.toList.map λu=>u.2) (by simp;exact hl) (λj x u hx hu=>by
  simp only[dS,ep]at hu;obtain⟨u',Jf,rfl⟩:=hu;exact(h j x u' hx (by simpa using Jf)).2) hf
 obtain⟨zero,hzero⟩:=eX ((if xs.length*i.size=0 then(#[]:Array Value) else z.cells))
 let C:Array Value:=(Array.range (xs.length*i.size)).map (λk=>zero[k%zero.size]!)
 have hC:C.size=xs.length*i.size:=by simp[C]
 have MB:Instr.fill (λk=>some (k*i.size,i.size)) C us.toList=some (us.toList.flatMap λu=>u.2.cells.toList).toArray:=by
  rw[qeA us.toList 0 C (λj u hu=>by
   have hj:j<xs.length:=by have:=(br.1 hu).1;simp at this;omega
   have:=(h j xs[j] u sM (by simpa using hu)).1;exact⟨oM,f2 _ (cY.2 ⟨u,dZ hu,rfl⟩)⟩) (by rw[hC];simp;rw[hl];exact dl _),Nat.zero_mul,que]
  rw[hC];have g:=(wq f1).1;rw[uP (FH hf)]at g;rw[g];simp[List.flatMap_map]
 have hD:(us.toList.flatMap λu=>u.2.cells.toList).toArray=((us.toList.map λu=>u.2).flatMap λu=>u.cells.toList).toArray:=by simp[List.flatMap_map]
 rw[hD]at MB;obtain⟨s1,s2,s3⟩:=hs.lay ((us.toList.map λu=>u.2).flatMap λu=>u.cells.toList).toArray e;refine⟨.slice (some ⟨w.heap.size,0,none⟩) xs.length xs.length,_,_,?_,?_,s1,s3,dl _⟩
 .simp only[Instr.buildSlice,Sem.run_bind,fj t1,rF t2,Result.andThen];rw[au oM];have qfn:Instr.fill (λk=>some (k*i.size,i.size)) (Array.map (λx=>zero[x%zero.size]!) (Array.range (xs.length*i.size))) us.toList=_:=MB;by_cases h0:xs.length*i.size=0
  .rw[ak h0]at hzero;subst hzero;rw[ak h0];simp only[Sem.run_bind,Sem.run_pure,Result.andThen,qfn,G9]
  .rw[au h0]at hzero;subst hzero;rw[au h0];simp only[Sem.run_bind,Sem.run_pure,Result.andThen,yI t2 t3,qfn,G9]
 .obtain⟨g1,g2⟩:=wq f1;have hlen:=uP (FH hf);refine .sl (sz:=i.size) cz (λ_=>rfl) (FH hf) (λk j hk hj=>?_) (λk v j c' c hv hc hi=>?_)
  .simp only[En.lay,if_true,mg]
   have:k*i.size+j<(jK xs).length:=by
    rw[hlen];have:(k+1)*i.size<=xs.length*i.size:=vY _ hk;rw[jH]at this;omega
   obtain⟨d,hd,_⟩:=g2 (k*i.size+j) _ (bX this);rw[hd];rfl
  .simp only[En.lay,if_true,mg]at hi
   have hj:j<i.size:=by
    have:=(br.1 hc).1;rw[show v.cells.length=i.size from FH hf v (dZ hv)]at this;exact this
   have hg:=Qm (FH hf) hv hj;rw[hc]at hg;obtain⟨d,hd,hr⟩:=g2 _ _ hg;rw[hd]at hi;cases hi;exact hr.mono s2
def SI{E:En}{P:aG}{w:aP}{v r:V}{cs:Array Value}{t:cC}{k:Option Nat}{off:Nat}(hk:oc P t=some k)(hv:VR E v (.agg cs))(Xa:v≠.hG)(hr:v.part off k=some r):
  ∃u,(part t cs off).run P w=.ok u w/\VR E r u:=by
 obtain⟨c1,c2⟩:=hv.cells Xa;have wO:(Value.agg cs).cells=cs:=rfl;rw[wO]at c1 c2;unfold oc at hk
 have scalar:∀d,P.underlying t=some d->(∀fs,d≠.struct fs)->(∀n e,d≠.array n e)->k=none->∃u,(part t cs off).run P w=.ok u w/\VR E r u:=by
  intro d hd h1 h2 hk;subst hk;simp only[V.part]at hr;have ho:=(br.1 hr).1
  have this:(isAgg t).run P w=.ok false w:=by
   simp only[isAgg,Sem.run_bind,fj hd,Result.andThen];cases d<;>first|rfl|exact absurd rfl (h1 _)|exact absurd rfl (h2 _ _)
  have zm:cs[off]?=some (cs[off]'oM):=sM;refine⟨_,?_,c2 off r _ hr zm⟩;simp only[part,Sem.run_bind,this,Result.andThen,mf,if_false,zm,Sem.run_pure]
 have agg:∀d,P.underlying t=some d->(∃fs,d=.struct fs)\/(∃n e,d=.array n e)->((P.info? t).map λi=>some i.size)=some k->∃u,(part t cs off).run P w=.ok u w/\VR E r u:=by
  intro d hd h1 hk
  cases hi:P.info? t with
  |none=>rw[hi]at hk;cases hk
  |some i=>
   rw[hi]at hk;cases hk
   have this:(isAgg t).run P w=.ok true w:=by
    simp only[isAgg,Sem.run_bind,fj hd,Result.andThen];rcases h1 with ⟨fs,rfl⟩|⟨n,e,rfl⟩<;>rfl
   have fN:(part t cs off).run P w=.ok (.agg (cs.extract off (off+i.size))) w:=by
    simp only[part,Sem.run_bind,this,Result.andThen,if_true,rF hi,Sem.run_pure]
   refine⟨_,fN,?_⟩;simp only[V.part]at hr;split at hr
   .rename_i hc;obtain⟨rfl,h2,ha⟩:=hc;cases hr
    have:cs.extract 0 (0+i.size)=cs:=by
     rw[h2,V.size,c1];simp
    rw[this];exact hv
   .split at hr
    .rename_i ds _;split at hr
     .rename_i hle;cases hr;have io:(V.agg ds).cells=ds:=rfl;rw[io]at c1 c2;refine .agg (by simp;omega) λj x u hx hu=>?_
      have hj:j<i.size:=by
       have:=(br.1 hx).1;simp at this;omega
      rw[qx hj,qw]at hx;rw[Array.getElem?_extract]at hu;split at hu
      .exact c2 _ x u hx hu
      .cases hu
     .cases hr
    .cases hr
 cases hd:P.underlying t with
 |none=>rw[hd]at hk;cases hk
 |some d=>
  rw[hd]at hk;cases d<;>first
   |exact agg _ hd (.inl ⟨_,rfl⟩) hk
   |exact agg _ hd (.inr ⟨_,_,rfl⟩) hk
   |(cases hk;exact scalar _ hd (λ_=>by simp) (λ_ _=>by simp) rfl)
def VK(P:aG)(t:cC)(f:Nat):Option (Nat×Option Nat):=
 match P.underlying t with
 |some (.struct fs)=>match fs[f]? with
  |some x=>(oc P x.type).map λk=>(x.offset,k)
  |none=>none
 |_=>none
def qwc{E:En}{S:St}{P:aG}{w:aP}{v r:V}{u:Value}{t:cC}{f off:Nat}{k:Option Nat}(hs:SR E S w)(hv:VR E v u)(ha:v.isAgg=true)(hf:VK P t f=some (off,k))(hr:v.part off k=some r):
  dw P E S w (Instr.field t u f) r S:=by
 unfold VK at hf;split at hf<;>try cases hf
 rename_i fs hu;split at hf<;>try cases hf
 rename_i x hx
 cases hk:oc P x.type with
 |none=>rw[hk]at hf;cases hf
 |some k'=>
  rw[hk]at hf;cases hf
  have:∃cs,u=.agg cs:=by
   cases v<;>simp[V.isAgg]at ha;cases hv;exact⟨_,rfl⟩
  obtain⟨cs,rfl⟩:=this;obtain⟨d,hd,hr⟩:=SI (P:=P) (w:=w) hk hv (by rintro rfl;simp[V.isAgg]at ha) hr;refine dw.pure hs ?_ hr;simp only[Instr.field,Sem.run_bind,fj hu,Result.andThen,hx,asAgg,Sem.run_pure,hd]
def qwg{E:En}{S:St}{P:aG}{w:aP}{v r:V}{u:Value}{t e:cC}{ei:TypeInfo}{n:Nat}{ix:Int}{kd:IntKind}{k:Option Nat}(hs:SR E S w)(hv:VR E v u)(ha:v.isAgg=true)(hu:P.underlying t=some (.array n e))(he:P.info? e=some ei)(hk:oc P e=some k)
  (h0:0<=ix/\ix<n) (hr:v.part (ix.toNat*ei.size) k=some r):dw P E S w (Instr.index t u (.int kd ix)) r S:=by
 have:∃cs,u=.agg cs:=by
  cases v<;>simp[V.isAgg]at ha;cases hv;exact⟨_,rfl⟩
 obtain⟨cs,rfl⟩:=this;obtain⟨d,hd,hr⟩:=SI (P:=P) (w:=w) hk hv (by rintro rfl;simp[V.isAgg]at ha) hr;refine dw.pure hs ?_ hr;simp only[Instr.index,asIntOf,Sem.run_bind,Sem.run_pure,fj hu,Result.andThen];rw[ak h0];simp only[Sem.run_bind,rF he,Result.andThen,hd]
def qwa{E:En}{S:St}{P:aG}{w:aP}{vs:List V}{r:V}{u:Value}{k:Nat}(hs:SR E S w)(hv:VR E (.aV vs) u)(hr:vs[k]?=some r):dw P E S w (Instr.extract u k) r S:=by
 cases hv with
 |aV h g=>
  rename_i us;have hk:=(br.1 hr).1;have mQ:us[k]?=some (us[k]'oM):=sM;exact dw.pure hs (by simp[Instr.extract,mQ]) (g k r _ hr mQ)
def yw(s:Bz)(ix:Int):Option V:=if 0<=ix then(s[ix.toNat]?).map λb=>.int .u8 b.toNat else none
def qwf{E:En}{S:St}{P:aG}{w:aP}{s:Bz}{ix:Int}{k:IntKind}{t:cC}{r:V}(hs:SR E S w)(ht:P.underlying t=some .string)(h:yw s ix=some r):dw P E S w (Instr.index t (.string s) (.int k ix)) r S:=by
 unfold yw at h;split at h<;>try cases h
 rename_i h0
 cases hb:s[ix.toNat]? with
 |none=>rw[hb]at h;cases h
 |some b=>
  rw[hb]at h;cases h;refine dw.pure hs ?_ (.int _ _);simp[Instr.index,asIntOf,Sem.run_bind,Result.andThen,fj ht,h0,hb]
def kO(S:St)(sz:Nat)(d:V)(lo hi:Option Int):Option V:=
 match d with
 |.str s=>if 0<=lo.getD 0/\lo.getD 0<=hi.getD s.size/\hi.getD s.size<=s.size then some (.str (s.extract (lo.getD 0).toNat (hi.getD s.size).toNat)) else none
 |.sl x xs=>if 0<=lo.getD 0/\lo.getD 0<=hi.getD xs.length/\hi.getD xs.length<=xs.length/\(xs.all λv=>v.size==sz)=true then
   some (.sl (x&&decide (hi.getD xs.length=xs.length)) ((xs.take (hi.getD xs.length).toNat).drop (lo.getD 0).toNat)) else none
 |.arr l off len st=>if 0<=lo.getD 0/\lo.getD 0<=hi.getD len/\hi.getD len<=len then
   if lo.getD 0=0 then some (.arr l off (hi.getD len).toNat st) else if lo.getD 0=hi.getD len then some (.sl false []) else match S[l]? with
    |some (.arr _ s wr)=>if wr<=st/\s=sz then some (.arr l (off+(lo.getD 0).toNat) ((hi.getD len).toNat-(lo.getD 0).toNat) st) else none
    |_=>none
  else none
 |_=>none
def qjL{P:aG}{w:aP}{b:Bool}{len cap:Nat}{lo hi:Option Int}{k k':IntKind}(h0:0<=lo.getD 0)(h1:lo.getD 0<=hi.getD len)(h2:hi.getD len<=len)(hc:len<=cap):
  (Instr.sliceBounds b len cap (lo.map (.int k)) (hi.map (.int k')) none).run P w=.ok ((lo.getD 0).toNat,(hi.getD len).toNat,cap) w:=by
 cases lo<;>cases hi<;>simp only[KR,HQ]at h0 h1 h2<;>simp only[Instr.sliceBounds,Instr.sliceBound,asIntOf,fG,Option.map_none,PD,KR,HQ,Sem.run_bind,Sem.run_pure,Result.andThen,mf,if_false]
 .simp
 .rw[ak ⟨oM,oM⟩];simp[Result.andThen]
 .rw[ak ⟨oM,oM⟩];simp[Result.andThen]
 .rw[ak ⟨oM,oM⟩];simp only[Sem.run_bind,Sem.run_pure,Result.andThen];rw[ak ⟨oM,oM⟩];simp[Result.andThen]
def qwm{E:En}{S:St}{P:aG}{w:aP}{s:Bz}{lo hi:Option Int}{k k':IntKind}{t:cC}{r:V}{sz:Nat}(hs:SR E S w)(ht:P.underlying t=some .string)(h:kO S sz (.str s) lo hi=some r):
  dw P E S w (Instr.sliceAt t (.string s) (lo.map (.int k)) (hi.map (.int k')) none) r S:=by
 simp only[kO]at h;split at h<;>try cases h
 rename_i hc;obtain⟨h0,h1,h2⟩:=hc;refine dw.pure hs ?_ (.str _);have:=qjL (P:=P) (w:=w) (b:=false) (k:=k) (k':=k') h0 h1 h2 (dl s.size);simp only[Instr.sliceAt,Sem.run_bind,fj ht,Result.andThen,Instr.slice];simp[Sem.run_bind,Result.andThen,this]
def qj7{E:En}{S:St}{P:aG}{w:aP}{d r:V}{u:Value}{lo hi:Option Int}{k k':IntKind}{t:cC}{sz:Nat}(hs:SR E S w)(ht:FD P t=some sz)(hd:VR E d u)(h:kO S sz d lo hi=some r)(hn:∀s,d≠.str s):
  dw P E S w (Instr.sliceAt t u (lo.map (.int k)) (hi.map (.int k')) none) r S:=by
 unfold FD at ht;split at ht<;>try cases ht
 rename_i e hu
 cases eI:P.info? e with
 |none=>rw[eI]at ht;cases ht
 |some i=>
  rw[eI]at ht;cases ht;have run:∀(a:Option Addr) (len cap:Nat),0<=lo.getD 0->lo.getD 0<=hi.getD len->hi.getD len<=len->len<=cap->
    (Instr.sliceAt t (.slice a len cap) (lo.map (.int k)) (hi.map (.int k')) none).run P w=
     .ok (.slice (if cap=(lo.getD 0).toNat then a else a.map (·.add ((lo.getD 0).toNat*i.size))) ((hi.getD len).toNat-(lo.getD 0).toNat) (cap-(lo.getD 0).toNat)) w:=by
   intro a len cap h0 h1 h2 hc;have:=qjL (P:=P) (w:=w) (b:=true) (k:=k) (k':=k') h0 h1 h2 hc;simp only[Instr.sliceAt,Sem.run_bind,fj hu,Result.andThen,Instr.slice];simp[Sem.run_bind,Result.andThen,this,rF eI,fj hu]
  have emp:∀(f:Bool) (b o cap:Nat),(f=true->cap=0)->VR E (.sl f []) (.slice (some ⟨b,o,none⟩) 0 cap):=λf b o cap hc=>
   .sl (sz:=0) (fS _) hc (λv hv=>by simp at hv) (λi j hi=>by simp at hi) (λi v j c' c hv=>by simp at hv)
  cases hd with
  |slnil x=>
   simp only[kO,qy]at h;split at h<;>try cases h
   rename_i hc;obtain⟨h0,h1,h2,_⟩:=hc;have hl:lo.getD 0=0:=by simp at h1 h2;omega
   have hh:hi.getD 0=0:=by simp at h1 h2;omega
   refine dw.pure hs (run none 0 0 h0 (by simpa using h1) (by simpa using h2) cz) ?_;simp[hl,hh];exact .slnil _
  |pL x a=>
   simp only[kO,qy]at h;split at h<;>try cases h
   rename_i hc;obtain⟨h0,h1,h2,_⟩:=hc;have hl:lo.getD 0=0:=by simp at h1 h2;omega
   have hh:hi.getD 0=0:=by simp at h1 h2;omega
   refine dw.pure hs (run (some a) 0 0 h0 (by simpa using h1) (by simpa using h2) cz) ?_;simp[hl,hh];exact .pL _ _
  |sl iJ hx tD hI tG=>
   rename_i x xs b o cap sz';simp only[kO]at h;split at h<;>try cases h
   rename_i hc;obtain⟨h0,h1,h2,h3⟩:=hc;refine dw.pure hs (run _ _ _ h0 h1 h2 iJ) ?_;generalize hL:(lo.getD 0).toNat=L;generalize hH:(hi.getD (xs.length:Int)).toNat=H;have hLH:L<=H:=oM;have hHl:H<=xs.length:=oM;have hlen:((xs.take H).drop L).length=H-L:=by simp;omega
   have qd:(x&&decide (hi.getD (xs.length:Int)=xs.length))=true->cap-L=H-L:=λhf=>by
    simp only[cT,dT]at hf;have:=hx hf.1;omega
   by_cases hz:H-L=0
   .have:(xs.take H).drop L=[]:=Po.1 (by rw[hlen];exact hz);rw[this,hz];split
    .exact emp _ _ _ _ (λhf=>by rw[qd hf];exact hz)
    .simp only[fG,wm];exact emp _ _ _ _ (λhf=>by rw[qd hf];exact hz)
   .have bF:i.size=sz':=by
     have hm:xs[0]'oM∈xs:=dz _;simp only[fR,beq_iff_eq]at h3;rw[<-h3 _ hm];exact tD _ hm
    rw[au oM];simp only[fG,wm];have kH:∀v,v∈(xs.take H).drop L->v∈xs:=λv hv=>E6 (KL hv)
    have lK:∀(k:Nat) (v:V),((xs.take H).drop L)[k]?=some v->xs[L+k]?=some v:=λk v hv=>by
     rw[qw]at hv;rw[KG]at hv;split at hv
     .exact hv
     .cases hv
    have:=VR.sl (E:=E) (x:=(x&&decide (hi.getD (xs.length:Int)=xs.length))) (xs:=(xs.take H).drop L) (b:=b) (o:=o+L*i.size) (cap:=cap-L) (sz:=sz') (by rw[hlen];omega) (λhf=>by rw[hlen];exact qd hf) (λv hv=>tD v (kH v hv))
     (λk j hk hj=>by
      have:=hI (L+k) j (by rw[hlen]at hk;omega) hj;rw[jH]at this;rw[bF,show o+L*sz'+k*sz'+j=o+(L*sz'+k*sz')+j by omega];exact this)
     (λk v j c' c hv hc qfu=>tG (L+k) v j c' c (lK k v hv) hc (by
      rw[jH];rw[bF,show o+L*sz'+k*sz'+j=o+(L*sz'+k*sz')+j by omega]at qfu;exact qfu))
    rw[hlen]at this;exact this
  |arr hr hN im=>
   rename_i l off len cap st x;simp only[kO]at h;split at h<;>try cases h
   rename_i hc;obtain⟨h0,h1,h2⟩:=hc;split at h
   .rename_i hz;cases h;refine dw.pure hs (run _ _ _ h0 h1 h2 im) ?_;have:=VR.arr (E:=E) (l:=l) (off:=off) (len:=(hi.getD (len:Int)).toNat) (cap:=cap) (st:=st) hr hN oM;simpa[hz,wm]using this
   .rename_i hz;split at h
    .rename_i he;cases h;refine dw.pure hs (run _ _ _ h0 h1 h2 im) ?_;rw[<-he,Nat.sub_self];split
     .exact emp _ _ _ _ (λhf=>by cases hf)
     .simp only[fG,wm];exact emp _ _ _ _ (λhf=>by cases hf)
    .rename_i he;split at h<;>try cases h
     rename_i ys s wr wX;split at h<;>try cases h
     rename_i j0;obtain⟨c1,c2⟩:=j0;have bF:=((hs.fJ l _ wX).2.2 st x hr c1).2.1;refine dw.pure hs (run _ _ _ h0 h1 h2 im) ?_;rw[au oM];simp only[fG,wm];have:=VR.arr (E:=E) (l:=l) (off:=off+(lo.getD 0).toNat) (len:=(hi.getD (len:Int)).toNat-(lo.getD 0).toNat) (cap:=cap-(lo.getD 0).toNat) (st:=st) hr
      (by rw[show off+(lo.getD 0).toNat+(cap-(lo.getD 0).toNat)=off+cap by omega];exact hN) oM
     rw[jH]at this;rw[<-c2,<-bF];exact this
  |str s=>exact absurd rfl (hn s)
  |_=>simp[kO]at h
def bits(op:BinOp)(k:IntKind)(x y:Int):Option Int:=
 let a:=BitVec.ofInt k.bits x
 let b:=BitVec.ofInt k.bits y
 match op with
 |.and=>some (k.wrap (a &&& b).toNat)
 |.or=>some (k.wrap (a ||| b).toNat)
 |.xor=>some (k.wrap (a ^^^ b).toNat)
 |.andNot=>some (k.wrap (a &&& ~~~b).toNat)
 |_=>none
def GA(op:BinOp)(k:IntKind)(a b:Int):Option V:=
 match op with
 |.add=>some (.int k (k.wrap (a+b)))
 |.sub=>some (.int k (k.wrap (a-b)))
 |.mul=>some (.int k (k.wrap (a*b)))
 |.quo=>if b=0 then none else some (.int k (k.wrap (a.tdiv b)))
 |.rem=>if b=0 then none else some (.int k (a.tmod b))
 |.eql=>some (.bool (decide (a=b)))
 |.neq=>some (.bool (!decide (a=b)))
 |.lss=>some (.bool (decide (a<b)))
 |.leq=>some (.bool (decide (a<=b)))
 |.gtr=>some (.bool (decide (b<a)))
 |.geq=>some (.bool (decide (b<=a)))
 |.and|.or|.xor|.andNot=>(bits op k a b).map (.int k)
 |_=>none
def zZ(x y:Bz):Bool:=Op.bytesLess x.toList y.toList
def BG(x y:Bz):Bool:=x.toList==y.toList
def vF(op:BinOp)(x y:Bz):Option V:=
 match op with
 |.add=>if((x.size+y.size:Nat):Int)<=IntKind.i64.max then some (.str (x++y)) else none
 |.eql=>some (.bool (BG x y))
 |.neq=>some (.bool (!BG x y))
 |.lss=>some (.bool (zZ x y))
 |.leq=>some (.bool (zZ x y||BG x y))
 |.gtr=>some (.bool (!(zZ x y||BG x y)))
 |.geq=>some (.bool (!zZ x y))
 |_=>none
def SS(op:BinOp)(k:IntKind)(a b:Int):Option V:=
 match op with
 |.shl=>if b<0 then none else some (.int k (k.wrap (a*2^min b.toNat k.bits)))
 |.shr=>if b<0 then none else some (.int k (a.fdiv (2^min b.toNat k.bits)))
 |_=>none
def CO(op:BinOp)(x y:V):Option V:=
 match x,y with
 |.int k a,.int k' b=>if op=.shl\/op=.shr then SS op k a b else if k=k' then GA op k a b else none
 |.str a,.str b=>vF op a b
 |_,_=>none
def V7{op:BinOp}{t:cC}{x y:Operand}{a b:Value}{P:aG}{w:aP}(h1:¬(a=.nilIface/\b=.nilIface))(h2:∀c d,¬(a=.agg c/\b=.agg d)):(eqGuard op t x y a b).run P w=.ok () w:=by
  unfold eqGuard;cases op<;>first
    |rfl
    | (cases a <;> first
        |rfl
        |(cases b<;>first|rfl|exact absurd ⟨rfl,rfl⟩ h1)
        |(cases b<;>first|rfl|exact absurd ⟨rfl,rfl⟩ (h2 _ _)))
def qvH{P:aG}{w:aP}{op:BinOp}{k:IntKind}{a b:Int}{r:V}{E:En}(gk:op≠.shl/\op≠.shr)(h:GA op k a b=some r)(t:cC):∃u,(binOp op t (.int k a) (.int k b)).run P w=.ok u w/\VR E r u:=by
  cases op<;>simp only[GA,bits,fG]at h<;>first
    |(cases h;refine⟨.int k _,?_,.int _ _⟩;simp only[binOp,ne_eq,not_true_eq_false,if_false];rfl)
    |(cases h;refine⟨.bool _,?_,.bool _⟩;simp[binOp,Op.intCmp];try rfl)
    | (split at h
       · cases h
       · rename_i hz;cases h;exact⟨_,by simp[binOp,Op.intDiv,hz],.int _ _⟩)
    |(cases h;done)
    |(exact absurd rfl gk.1)
    |(exact absurd rfl gk.2)
def qv1{E:En}{S:St}{P:aG}{w:aP}{op:BinOp}{t:cC}{ox oy:Operand}{x y r:V}{u v:Value}(hs:SR E S w)(hx:VR E x u)(hy:VR E y v)(h:CO op x y=some r):
    dw P E S w (do eqGuard op t ox oy u v;binOp op t u v) r S:=by
  unfold CO at h;split at h
  · rename_i k a k' b;cases hx;cases hy;have hg:(eqGuard op t ox oy (.int k a) (.int k' b)).run P w=.ok () w:=V7 sM sM;split at h
    · rename_i gk;unfold SS at h;rcases gk with rfl|rfl<;>simp only at h<;>split at h<;>cases h
      · rename_i hb;exact dw.pure hs (by simp[Sem.run_bind,hg,Result.andThen,binOp,Op.shift,hb]) (.int _ _)
      · rename_i hb;exact dw.pure hs (by simp[Sem.run_bind,hg,Result.andThen,binOp,Op.shift,hb]) (.int _ _)
    · rename_i gk;split at h<;>try cases h
      rename_i hk;subst hk;obtain⟨u,hu,hr⟩:=qvH (P:=P) (w:=w) (E:=E) ⟨λe=>gk (.inl e),λe=>gk (.inr e)⟩ h t;exact dw.pure hs (by simp only[Sem.run_bind,hg,Result.andThen];exact hu) hr
  · rename_i a b;cases hx;cases hy;have hg:(eqGuard op t ox oy (.string a) (.string b)).run P w=.ok () w:=V7 sM sM
    have fN:∀u,(Op.stringOp op a b).run P w=.ok u w->(do eqGuard op t ox oy (.string a) (.string b);binOp op t (.string a) (.string b):Sem Value).run P w=.ok u w:=by
      intro u hu;simp only[Sem.run_bind,hg,Result.andThen];cases op<;>exact hu
    cases op<;>simp only[vF]at h<;>first
      |(cases h;done)
      |(cases h;exact dw.pure hs (fN _ (by simp[Op.stringOp];try rfl)) (.bool _))
      | (split at h
         · rename_i hle;cases h;exact dw.pure hs (fN _ (by simp only[Op.stringOp];rw[au oM];rfl)) (.str _)
         · cases h)
  · cases h
def fH(x y:V):Option Bool:=
 match x,y with
 |.bool a,.bool b=>some (a==b)
 |.cu,.cu=>some true
 |.cu,.ptr ..|.cu,.cq ..|.ptr ..,.cu|.cq ..,.cu=>some false
 |.bY,.bY=>some true
 |.bY,.fn ..|.fn ..,.bY=>some false
 |_,_=>none
def Il(P:aG)(t:cC)(x y:V):Bool:=
 match P.underlying t,x,y with
 |some .bool,.bool _,.bool _=>true
 |some (.pointer _),.cu,.cu|some (.pointer _),.cu,.ptr ..|some (.pointer _),.cu,.cq ..|some (.pointer _),.ptr ..,.cu|some (.pointer _),.cq ..,.cu=>true
 |some (.func ..),.bY,.bY|some (.func ..),.bY,.fn ..|some (.func ..),.fn ..,.bY=>true
 |_,_,_=>false
def qvG{E:En}{P:aG}{w:aP}{t:cC}{x y:V}{u v:Value}{b:Bool}(n:Nat)(hx:VR E x u)(hy:VR E y v)(h:fH x y=some b)(hk:Il P t x y=true):
  (Op.equalIn (n+1) t u v).run P w=.ok b w:=by
 cases hd:P.underlying t with
 |none=>simp[Il,hd]at hk
 |some d=>
  simp only[Op.equalIn,Sem.run_bind,fj hd,Result.andThen];cases hx<;>cases hy<;>simp only[fH,reduceCtorEq]at h<;>cases h<;>cases d<;>simp[Il,hd]at hk<;>rfl
def qod{E:En}{x y:V}{u v:Value}{b:Bool}(hx:VR E x u)(hy:VR E y v)(h:fH x y=some b):¬(u=.nilIface/\v=.nilIface)/\(∀c d,¬(u=.agg c/\v=.agg d))/\
  (∀t,binOp .eql t u v=do pure (.bool (<-Op.equal t u v)))/\(∀t,binOp .neq t u v=do pure (.bool (!(<-Op.equal t u v)))):=by
 cases hx<;>cases hy<;>simp only[fH,reduceCtorEq]at h<;>cases h<;>exact⟨sM,sM,λ_=>rfl,λ_=>rfl⟩
def qv8{E:En}{S:St}{P:aG}{w:aP}{op:BinOp}{t:cC}{ox oy:Operand}{x y:V}{u v:Value}{b:Bool}(hs:SR E S w)(hx:VR E x u)(hy:VR E y v)(h:fH x y=some b)(hk:Il P t x y=true)(ho:op=.eql\/op=.neq):
  dw P E S w (do eqGuard op t ox oy u v;binOp op t u v) (.bool (if op=.eql then b else !b)) S:=by
 have h1:(Op.equal t u v).run P w=.ok b w:=qvG 9999 hx hy h hk;obtain⟨h2,h3,h4,h5⟩:=qod hx hy h;refine dw.pure hs (d:=.bool (if op=.eql then b else !b)) ?_ (.bool _);simp only[Sem.run_bind,V7 h2 h3,Result.andThen];rcases ho with rfl|rfl
 .rw[h4 t];simp[h1,Result.andThen]
 .rw[h5 t];simp[h1,Result.andThen]
def JW(op:UnOp)(x:V):Option V:=
 match op,x with
 |.neg,.int k n=>some (.int k (k.wrap (0-n)))
 |.not,.bool b=>some (.bool !b)
 |.xor,.int k n=>(bits .xor k (if k.signed then -1 else k.max) n).map (.int k)
 |_,_=>none
def qwo{E:En}{S:St}{P:aG}{w:aP}{op:UnOp}{x r:V}{u:Value}(hs:SR E S w)(hx:VR E x u)(h:JW op x=some r):dw P E S w (Op.unary op u) r S:=by
 unfold JW at h;split at h<;>cases h<;>cases hx
 .exact dw.pure hs (by simp[Op.unary,Op.intArith]) (.int _ _)
 .exact dw.pure hs (by simp[Op.unary]) (.bool _)
 .exact dw.pure hs (by simp[Op.unary,Op.intBits]) (.int _ _)
def Yf(x:V):Option V:=
 match x with
 |.sl _ xs=>some (.int .i64 xs.length)
 |.arr _ _ len _=>some (.int .i64 len)
 |.str s=>some (.int .i64 s.size)
 |_=>none
mutual
def V.under(m:Nat):V->Bool
 |.ptr l _ _ _=>decide (l<m)
 |.arr l _ _ _=>decide (l<m)
 |.map l=>decide (l<m)
 |.dc l=>decide (l<m)
 |.cq v _=>V.under m v
 |.sl _ xs=>V.dr m xs
 |.fn f fs cs=>(match f with|.yield _=>false|_=>true)&&V.dr m fs&&V.dr m cs
 |.iface _ v=>V.under m v
 |.agg cs=>V.dr m cs
 |.aV cs=>V.dr m cs
 |_=>true
def V.dr(m:Nat):List V->Bool
 |[]=>true
 |v::vs=>V.under m v&&V.dr m vs
end
def EC{m:Nat}:∀{xs:List V},V.dr m xs=true->∀v,v∈xs->v.under m=true
 |[],_,v,hv=>by simp at hv
 |x::xs,h,v,hv=>by
  simp only[V.dr,cT]at h;rcases dU.1 hv with rfl|hv
  .exact h.1
  .exact EC h.2 v hv
def BM{m:Nat}:∀{xs:List V},(∀v,v∈xs->v.under m=true)->V.dr m xs=true
 |[],_=>rfl
 |x::xs,h=>by
  simp only[V.dr,cT];exact⟨h x sM,BM λv hv=>h v (by simp[hv])⟩
def ZY{m:Nat}{v c:V}{j:Nat}(h:v.under m=true)(hc:v.cells[j]?=some c):c.under m=true:=by
 by_cases ha:∃cs,v=.agg cs
 .obtain⟨cs,rfl⟩:=ha;simp only[V.under]at h;exact EC h c (dZ hc)
 .have:v.cells=[v]:=by
   cases v<;>first|rfl|exact absurd ⟨_,rfl⟩ ha
  rw[this]at hc
  cases j with
  |zero=>simp at hc;subst hc;exact h
  |succ j=>simp at hc
def En.cut(E:En)(m:Nat):En:={ E with ρ:=λl st=>if l<m then E.ρ l st else none }
def VR.cut{E:En}{m:Nat}{v:V}{u:Value}(r:VR E v u):v.under m=true->VR (E.cut m) v u:=by
 induction r with
 |hG u=>intro _;exact .hG u
 |bool b=>intro _;exact .bool b
 |int k n=>intro _;exact .int k n
 |str s=>intro _;exact .str s
 |cu=>intro _;exact .cu
 |ptr i off hr=>intro h;simp[V.under]at h;exact .ptr i off (by simp[En.cut,h,hr])
 |dE g off=>intro _;exact .dE g off
 |cq off hI _ ih=>intro h;simp only[V.under]at h;exact .cq off hI λj c' c hc hi=>ih j c' c hc hi (ZY h hc)
 |slnil x=>intro _;exact .slnil x
 |pL x a=>intro _;exact .pL x a
 |sl hc hx hs hI _ ih=>intro h;simp only[V.under]at h;exact .sl hc hx hs hI λi v j c' c hv im hi=>ih i v j c' c hv im hi (ZY (EC h v (dZ hv)) im)
 |arr hr hN hc=>intro h;simp[V.under]at h;exact .arr (by simp[En.cut,h,hr]) hN hc
 |dI=>intro _;exact .dI
 |map hr=>intro h;simp[V.under]at h;exact .map (by simp[En.cut,h,hr])
 |fn h1 h2 _ _ ih1 ih2=>
  intro h;simp only[V.under,cT]at h;exact .fn h1 h2 (λi v u hv hu=>ih1 i v u hv hu (EC h.1.2 v (dZ hv))) (λi v u hv hu=>ih2 i v u hv hu (EC h.2 v (dZ hv)))
 |bY=>intro _;exact .bY
 |iface t _ ih=>intro h;simp only[V.under]at h;exact .iface t (ih h)
 |eB=>intro _;exact .eB
 |dc hr=>intro hb;simp only[V.under,dT]at hb;exact .dc (by simp[En.cut,hb,hr])
 |agg hl _ ih=>intro h;simp only[V.under]at h;exact .agg hl λi v u hv hu=>ih i v u hv hu (EC h v (dZ hv))
 |aV hl _ ih=>intro h;simp only[V.under]at h;exact .aV hl λi v u hv hu=>ih i v u hv hu (EC h v (dZ hv))
def Ob.under(m:Nat):Ob->Bool
 |.arr xs _ _=>V.dr m xs
 |.map es _ _=>es.all λp=>p.1.under m&&p.2.under m
 |.iter lm _ _ _=>decide (lm<m)
 |.dead=>true
 |.loop i=>i.e.all λp=>p.2.under m
def SR.cut{E:En}{S:St}{w:aP}(h:SR E S w){m:Nat}(hb:∀o,o∈S.take m->o.under m=true)(hm:m<=S.length):SR (E.cut m) (S.take m) w/\(∀n,n<=m->bT n E S w (E.cut m) (S.take m) w):=by
 have hlen:(S.take m).length=m:=by simp;omega
 have lL:∀l,gQ (S.take m) l->gQ S l/\l<m:=λl hl=>by
  have:=DX hl;rw[hlen]at this;obtain⟨o,ho,hd⟩:=hl;exact⟨⟨o,by rw[qx this]at ho;exact ho,hd⟩,this⟩
 have hρ:∀l st x,(E.cut m).ρ l st=some x->l<m/\E.ρ l st=some x:=λl st x hx=>by
  simp only[En.cut]at hx;split at hx
  .exact⟨‹_›,hx⟩
  .cases hx
 have dW:∀b,own (E.cut m) (S.take m) b->own E S b:=λb ⟨l,st,x,hl,hx,he⟩=>⟨l,st,x,(lL l hl).1,(hρ l st x hx).2,he⟩
 have hold:∀{w':aP} {x:qq} {xs:List V} {n:Nat},V.dr m xs=true->ES E w' x xs n->ES (E.cut m) w' x xs n:=by
  intro w' x xs n iT hh;obtain⟨C,t,h1,h2,h3,h4⟩:=hh;refine⟨C,t,h1,h2,h3,λi v hv hi j c' hc=>?_⟩;obtain⟨c,lI,ri⟩:=h4 i v hv hi j c' hc;exact⟨c,lI,ri.cut (ZY (EC iT v (dZ hv)) hc)⟩
 refine ⟨⟨⟨h.gl.1,h.gl.2⟩,h.I,?_,?_,?_,?_,?_⟩,λn hn=>⟨dl _,λ_ _ _ hc=>hc,λl st x hl hx=>by simp only[En.cut];rw[ak oM];exact hx,λl hl hx st=>by
   simp only[En.cut];split
   .exact hx st
   .rfl,λb hb=>.inl (dW b hb),λb o c hc=>.inl hc,λ_ _ _=>rfl,rfl⟩⟩
 .intro l o ho;have aB:l<m:=by have:=(br.1 ho).1;rw[hlen]at this;exact this
  have my:=hb o (dZ ho);rw[qx aB]at ho;have:=h.fJ l o ho
  cases o with
  |arr xs sz wr=>
   obtain⟨h0,h1,h2⟩:=this;refine⟨h0,h1,λst x hx sB=>?_⟩;obtain⟨a,b,c⟩:=h2 st x (hρ l st x hx).2 sB;exact⟨a,b,hold my c⟩
  |iter lm since seen last=>
   obtain⟨x,y,h1,h2,h3⟩:=this;simp only[Ob.under,dT]at my;exact⟨x,y,by simp[En.cut,aB,h1],by simp[En.cut,my,h2],h3⟩
  |map es bs ck=>
   obtain⟨x,entries,h1,h2,h3,h5,h4⟩:=this;refine⟨x,entries,by simp[En.cut,aB,h1],h2,h3,h5,λi k v e hk he=>?_⟩;obtain⟨a,b⟩:=h4 i k v e hk he;simp only[Ob.under,fR,cT]at my;have:=my (k,v) (dZ hk);exact⟨a.cut this.1,b.cut this.2⟩
  |dead=>trivial
  |loop i=>
   obtain⟨x,r,h1,h2,h3,h4,h5,h6,h7,h8,h9⟩:=this;refine⟨x,r,by simp[En.cut,aB,h1],h2,h3,h4,h5,h6,h7,h8,λt v hv=>?_⟩;obtain⟨u,hu,hr⟩:=h9 t v hv;simp only[Ob.under,fR]at my;exact⟨u,hu,hr.cut (my (t,v) (ae.get_mem hv))⟩
 .intro l st x hx;rw[hlen];exact(hρ l st x hx).1
 .intro b o kE;exact h.apart b o (dW b kE)
 .intro b kE;exact h.lt b (dW b kE)
 .intro l l' st bc x x' hl cj hx iG he;exact h.inj l l' st bc x x' (lL l hl).1 (lL l' cj).1 (hρ l st x hx).2 (hρ l' bc x' iG).2 he
def YF{E E':En}{S:St}{l b:Nat}(hρ:E'.ρ=E.ρ)(h:own E' (S.set l .dead) b):own E S b/\∀st x,gQ S l->E.ρ l st=some x->(∀l' bc x',gQ S l'->E.ρ l' bc=some x'->x'.b=x.b->l'=l)->x.b≠b:=by
 obtain⟨l',st,x,hl,hx,rfl⟩:=h;rw[hρ]at hx
 have bZ:l'≠l:=by
  rintro rfl;obtain⟨o,ho,hd⟩:=hl;rcases xI l' S.length with aB|Dt
  .rw[bO aB]at ho;cases ho;exact hd rfl
  .rw[rQ (by simp;omega)]at ho;cases ho
 have lL:gQ S l':=by
  obtain⟨o,ho,hd⟩:=hl;rw[bG (Ne.symm bZ)]at ho;exact⟨o,ho,hd⟩
 exact⟨⟨l',st,x,lL,hx,rfl⟩,λbc x' _ iG yh e=>bZ (yh l' st x lL hx e.symm)⟩
def SR.freeze{E:En}{S:St}{w:aP}(h:SR E S w){l off len st sz wr:Nat}{xs:List V}{u:Value}(ho:S[l]?=some (.arr xs sz wr))(sB:wr<=st)(hv:VR E (.arr l off len st) u)(hle:off+len<=st):
  ∃E',SR E' (S.set l .dead) w/\(∀n,bT n E S w E' (S.set l .dead) w)/\E.le E'/\VR E' (.sl false ((xs.drop off).take len)) u:=by
 cases hv with
 |arr hr hN hc=>
  rename_i cap x;obtain⟨h0,h1,h2⟩:=h.fJ l _ ho;obtain⟨g1,g2,C,t,g3,g4,g5,g6⟩:=h2 st x hr sB;have gX:gQ S l:=⟨_,ho,sM⟩;have my:own E S x.b:=⟨l,st,x,gX,hr,rfl⟩
  let E':En:={ E with I:=λb o=>if b=x.b/\off*x.sz<=o/\o<(off+len)*x.sz then C[o]? else E.I b o }
  have mO:E.le E':=⟨λb o c hc=>by
   simp only[E'];split
   .rename_i hk;obtain⟨rfl,_⟩:=hk;rw[h.apart x.b o my]at hc;cases hc
   .exact hc,λ_ _ _ h=>h⟩
  have hρ:E'.ρ=E.ρ:=rfl;have yh:∀l' bc x',gQ S l'->E.ρ l' bc=some x'->x'.b=x.b->l'=l:=λl' bc x' cj iG he=>h.inj l' l bc st x' x cj gX iG hr he
  refine⟨E',⟨h.gl.kL mO.1 (λ_ _ _ _ _ _=>rfl),?_,?_,?_,?_,?_,?_⟩,λn=>⟨dl _,mO.1,λl st x _ hx=>hx,λ_ _ hx=>hx,λb hb=>.inl (YF hρ hb).1,?_,λ_ _ _=>rfl,rfl⟩,mO,?_⟩
  .intro b o c hc;simp only[E']at hc;split at hc
   .rename_i hk;obtain⟨rfl,_⟩:=hk;rw[H6 g3];exact hc
   .exact h.I b o c hc
  .intro l' o' cj;by_cases hk:l'=l
   .subst hk;rw[bO (DX gX)]at cj;cases cj;trivial
   .rw[bG (Ne.symm hk)]at cj;exact(h.fJ l' o' cj).mono mO (λ_ _ hx=>hx) (λ_ _ _=>rfl)
  .intro l' bc x' iG;simpa using h.jI l' bc x' iG
  .intro b o hb;obtain⟨nV,pw⟩:=YF hρ hb;have bZ:=pw st x gX hr yh;simp only[E'];rw[au (λhk=>bZ hk.1.symm)];exact h.apart b o nV
  .intro b hb;exact h.lt b (YF hρ hb).1
  .intro l1 l2 fw lG x1 x2 sj yj mT kK he;have key:∀l',gQ (S.set l .dead) l'->gQ S l':=λl' cj=>xg cj gX
   exact h.inj l1 l2 fw lG x1 x2 (key l1 sj) (key l2 yj) mT kK he
  .intro b o c hc;simp only[E']at hc;split at hc
   .rename_i hk;obtain⟨rfl,_⟩:=hk;exact .inr (.inl my)
   .exact .inl hc
  .have hlen:((xs.drop off).take len).length=len:=by simp;omega
   have lK:∀(i:Nat) (v:V),((xs.drop off).take len)[i]?=some v->xs[off+i]?=some v/\i<len:=λi v hv=>by
    have hi:=(br.1 hv).1;rw[hlen]at hi;rw[qx hi,qw]at hv;exact⟨hv,hi⟩
   have kH:∀v,v∈(xs.drop off).take len->v.cells.length=x.sz:=λv hv=>by rw[g2];exact h1 v (KL (E6 hv))
   have Q8:∀i j,i<len->j<x.sz->off*x.sz<=off*x.sz+i*x.sz+j/\off*x.sz+i*x.sz+j<(off+len)*x.sz:=λi j hi hj=>by
    have:(i+1)*x.sz<=len*x.sz:=vY _ hi;rw[jH]at this;rw[jH];omega
   have:=VR.sl (E:=E') (x:=false) (xs:=(xs.drop off).take len) (b:=x.b) (o:=off*x.sz) (cap:=cap) (sz:=x.sz) (by rw[hlen];exact hc) (λh=>by cases h) kH
    (λi j hi hj=>by
     rw[hlen]at hi;simp only[E'];rw[ak ⟨trivial,Q8 i j hi hj⟩];have hx:xs[off+i]?=some (xs[off+i]'oM):=sM;have lJ:(xs[off+i]'oM).cells.length=x.sz:=by rw[g2];exact h1 _ (dz _)
     obtain⟨c,lI,_⟩:=g6 (off+i) _ hx oM j (xs[off+i]'oM).cells[j] sM;rw[show off*x.sz+i*x.sz+j=(off+i)*x.sz+j by rw[jH],lI];rfl)
    (λi v j c' c hv im hi=>by
     obtain⟨eV,eI⟩:=lK i v hv;have hj:j<x.sz:=by rw[<-kH v (dZ hv)];exact(br.1 im).1
     obtain⟨d,jb,jO⟩:=g6 (off+i) v eV oM j c' im;simp only[E']at hi;rw[ak ⟨trivial,Q8 i j eI hj⟩,show off*x.sz+i*x.sz+j=(off+i)*x.sz+j by rw[jH],jb]at hi;cases hi;exact jO.mono mO)
   rw[hlen]at this;exact this
end Go.Proofs.YtbifpocccfkhhaaGreatDoor
