/- A part. -/
import Derived.TacticsIn
import Derived.RangeFuncIn
set_option linter.all false
namespace Go.Proofs.YtbifpocccfkhhaaGreatDoor
open Go
theorem cq:type_of% @Nat.le_refl:=@Nat.le_refl
theorem AQ:type_of% @Option.isSome_iff_exists:=@Option.isSome_iff_exists
theorem aT:type_of% @List.getElem?_eq_some_iff:=@List.getElem?_eq_some_iff
theorem dc:type_of% @List.mem_of_getElem?:=@List.mem_of_getElem?
theorem gY:type_of% @Array.getElem?_eq_some_iff:=@Array.getElem?_eq_some_iff
theorem fL:type_of% @Nat.le_trans:=@Nat.le_trans
theorem jP:type_of% @Nat.lt_of_lt_of_le:=@Nat.lt_of_lt_of_le
theorem nh:type_of% @Array.getElem?_setIfInBounds_ne:=@Array.getElem?_setIfInBounds_ne
theorem pJ:type_of% @Nat.lt_or_ge:=@Nat.lt_or_ge
theorem x8:type_of% @Array.getElem?_eq_none:=@Array.getElem?_eq_none
theorem pz:type_of% @Array.getElem?_push:=@Array.getElem?_push
theorem b8:type_of% @List.getElem?_append_left:=@List.getElem?_append_left
theorem bC:type_of% @List.getElem?_set_ne:=@List.getElem?_set_ne
theorem bJ:type_of% @List.getElem?_set_self:=@List.getElem?_set_self
theorem kj:type_of% @List.length_nil:=@List.length_nil
theorem eE:type_of% @List.length_cons:=@List.length_cons
theorem vK:type_of% @List.getElem?_cons_zero:=@List.getElem?_cons_zero
theorem HZ:type_of% @Array.getElem?_setIfInBounds_self_of_lt:=@Array.getElem?_setIfInBounds_self_of_lt
theorem tG:type_of% @List.getElem?_cons_succ:=@List.getElem?_cons_succ
theorem x0:type_of% @Array.ext_getElem?:=@Array.ext_getElem?
theorem vv:type_of% @Array.getElem?_modify:=@Array.getElem?_modify
theorem EG:type_of% @List.length_eq_zero_iff:=@List.length_eq_zero_iff
theorem lj:type_of% @List.getElem?_take_of_lt:=@List.getElem?_take_of_lt
theorem kh:type_of% @List.getElem?_drop:=@List.getElem?_drop
theorem mb:type_of% @List.getElem?_eq_none:=@List.getElem?_eq_none
theorem cO:type_of% @List.append_assoc:=@List.append_assoc
theorem bK:type_of% @List.getElem?_append_right:=@List.getElem?_append_right
theorem pH:type_of% @List.getElem_of_mem:=@List.getElem_of_mem
theorem cI:type_of% @List.getElem_mem:=@List.getElem_mem
theorem ez:type_of% @Option.bind_some:=@Option.bind_some
theorem oD:type_of% @Nat.mul_le_mul_right:=@Nat.mul_le_mul_right
theorem gk:type_of% @Nat.add_mul:=@Nat.add_mul
theorem gj:type_of% @Nat.add_assoc:=@Nat.add_assoc
theorem iO:type_of% @List.flatMap_cons:=@List.flatMap_cons
theorem iQ:type_of% @Nat.zero_add:=@Nat.zero_add
theorem cJ:type_of% @List.length_append:=@List.length_append
theorem AE:type_of% @List.getElem?_toArray:=@List.getElem?_toArray
theorem rJ:type_of% @Nat.add_zero:=@Nat.add_zero
theorem iz:type_of% @Bool.false_eq_true:=@Bool.false_eq_true
theorem Am:type_of% @Bool.not_false:=@Bool.not_false
theorem d6:type_of% @List.all_eq_true:=@List.all_eq_true
theorem bZ:type_of% @Bool.and_eq_true:=@Bool.and_eq_true
theorem tI:type_of% @List.mem_flatMap:=@List.mem_flatMap
theorem cC:type_of% @List.mem_append:=@List.mem_append
theorem Ee:type_of% @Array.append_assoc:=@Array.append_assoc
theorem tq:type_of% @Array.getElem?_append_left:=@Array.getElem?_append_left
theorem Ah:type_of% @Array.getElem?_append_right:=@Array.getElem?_append_right
theorem x9:type_of% @Array.toList_inj:=@Array.toList_inj
theorem vJ:type_of% @List.foldl_cons:=@List.foldl_cons
theorem jj:type_of% @List.map_nil:=@List.map_nil
theorem b9:type_of% @List.map_cons:=@List.map_cons
theorem pB:type_of% @Array.length_toList:=@Array.length_toList
theorem Ef:type_of% @Array.foldl_toList:=@Array.foldl_toList
theorem oz:type_of% @List.mapM_cons:=@List.mapM_cons
theorem oH:type_of% @Option.bind_eq_bind:=@Option.bind_eq_bind
theorem dM:type_of% @Option.map_some:=@Option.map_some
theorem cX:type_of% @List.mem_cons:=@List.mem_cons
theorem dS:type_of% @List.getElem?_map:=@List.getElem?_map
theorem dL:type_of% @Option.map_eq_some_iff:=@Option.map_eq_some_iff
theorem cP:type_of% @List.cons_append:=@List.cons_append
theorem vG:type_of% @List.all_cons:=@List.all_cons
theorem AL:type_of% @List.size_toArray:=@List.size_toArray
theorem cE:type_of% @List.mem_map:=@List.mem_map
theorem bI:type_of% @List.getElem?_eq_getElem:=@List.getElem?_eq_getElem
theorem AP:type_of% @Option.getD_none:=@Option.getD_none
theorem yl:type_of% @Option.getD_some:=@Option.getD_some
theorem EN:type_of% @Option.isSome_none:=@Option.isSome_none
theorem eL:type_of% @Nat.zero_le:=@Nat.zero_le
theorem yj:type_of% @List.mem_of_mem_take:=@List.mem_of_mem_take
theorem EH:type_of% @List.mem_of_mem_drop:=@List.mem_of_mem_drop
theorem AC:type_of% @List.getElem?_take:=@List.getElem?_take
theorem dq:type_of% @Bool.eq_iff_iff:=@Bool.eq_iff_iff
theorem Iq:type_of% @List.eq_nil_of_length_eq_zero:=@List.eq_nil_of_length_eq_zero
theorem Ai:type_of% @Array.getElem?_toList:=@Array.getElem?_toList
theorem ou:type_of% @List.ext_getElem?:=@List.ext_getElem?
theorem tt:type_of% @Array.getElem?_map:=@Array.getElem?_map
theorem AO:type_of% @Nat.mod_eq_of_lt:=@Nat.mod_eq_of_lt
theorem bu:type_of% @List.length_map:=@List.length_map
theorem jO:type_of% @List.mem_map_of_mem:=@List.mem_map_of_mem
theorem jA:type_of% @List.getElem?_of_mem:=@List.getElem?_of_mem
theorem np:type_of% @List.mem_filter:=@List.mem_filter
theorem vM:type_of% @List.getElem?_zip_eq_some:=@List.getElem?_zip_eq_some
theorem mK:type_of% @List.mem_singleton:=@List.mem_singleton
theorem AH:type_of% @List.mem_of_find?_eq_some:=@List.mem_of_find?_eq_some
theorem tH:type_of% @List.mem_cons_self:=@List.mem_cons_self
theorem mc:type_of% @List.mem_cons_of_mem:=@List.mem_cons_of_mem
theorem vx:type_of% @Bool.not_eq_true':=@Bool.not_eq_true'
theorem Eh:type_of% @Bool.and_eq_false_iff:=@Bool.and_eq_false_iff
theorem pK:type_of% @Option.bind_eq_some_iff:=@Option.bind_eq_some_iff
theorem qC:type_of% @List.not_mem_nil:=@List.not_mem_nil
theorem Ej:type_of% @Bool.true_eq_false:=@Bool.true_eq_false
theorem AU:type_of% @Option.map_map:=@Option.map_map
theorem rE:type_of% @List.countP_cons:=@List.countP_cons
theorem vP:type_of% @List.mem_range:=@List.mem_range
theorem vy:type_of% @Bool.or_eq_true:=@Bool.or_eq_true
theorem rD:type_of% @List.any_eq_true:=@List.any_eq_true
theorem cY:type_of% @List.take_add_one:=@List.take_add_one
theorem ED:type_of% @List.getElem?_inj:=@List.getElem?_inj
theorem kn:type_of% @Nat.le_of_ble_eq_true:=@Nat.le_of_ble_eq_true
theorem EJ:type_of% @List.zip_cons_cons:=@List.zip_cons_cons
theorem EI:type_of% @List.reverse_cons:=@List.reverse_cons
theorem rF:type_of% @List.drop_eq_getElem_cons:=@List.drop_eq_getElem_cons
theorem yh:type_of% @List.drop_eq_nil_of_le:=@List.drop_eq_nil_of_le
theorem vE:type_of% @Int.toNat_natCast:=@Int.toNat_natCast
theorem tu:type_of% @Bool.not_eq_true:=@Bool.not_eq_true
theorem vH:type_of% @List.find?_cons:=@List.find?_cons
theorem vR:type_of% @List.nodup_nil:=@List.nodup_nil
theorem EF:type_of% @List.getLast?_cons_cons:=@List.getLast?_cons_cons
theorem eK:type_of% @List.nil_append:=@List.nil_append
theorem lu:type_of% @List.map_map:=@List.map_map
theorem pE:type_of% @ByteArray.ext:=@ByteArray.ext
theorem qz:type_of% @Array.ext':=@Array.ext'
theorem l8:type_of% @Bool.true_and:=@Bool.true_and
theorem vQ:type_of% @List.nodup_append:=@List.nodup_append
theorem EE:type_of% @List.getElem?_set:=@List.getElem?_set
theorem gZ:type_of% @Option.toList_some:=@Option.toList_some
theorem pG:type_of% @List.foldl_append:=@List.foldl_append
theorem iP:type_of% @List.take_of_length_le:=@List.take_of_length_le
theorem yi:type_of% @List.mem_append_right:=@List.mem_append_right
theorem vO:type_of% @List.mem_append_left:=@List.mem_append_left
theorem kR:type_of% @List.append_nil:=@List.append_nil
theorem tJ:type_of% @List.sizeOf_lt_of_mem:=@List.sizeOf_lt_of_mem
theorem tD:type_of% @List.drop_zero:=@List.drop_zero
theorem eR:type_of% @List.take_length:=@List.take_length
theorem lr:type_of% @List.map_congr_left:=@List.map_congr_left
theorem lA:type_of% @List.take_append_drop:=@List.take_append_drop
theorem yg:type_of% @List.any_append:=@List.any_append
theorem vN:type_of% @List.map_take:=@List.map_take
theorem km:type_of% @List.length_take:=@List.length_take
theorem Ax:type_of% @List.all_append:=@List.all_append
theorem cy:type_of% @List.map_append:=@List.map_append
theorem rG:type_of% @List.mem_iff_getElem?:=@List.mem_iff_getElem?
theorem AA:type_of% @List.append_inj:=@List.append_inj
theorem AB:type_of% @List.flatMap_append:=@List.flatMap_append
theorem vS:type_of% @Nat.add_sub_cancel_left:=@Nat.add_sub_cancel_left
theorem Ip:type_of% @List.dropLast_concat_getLast:=@List.dropLast_concat_getLast
theorem qB:type_of% @List.find?_append:=@List.find?_append
theorem AG:type_of% @List.length_set:=@List.length_set
theorem EO:type_of% @Option.map_eq_none_iff:=@Option.map_eq_none_iff
theorem vI:type_of% @List.find?_eq_none:=@List.find?_eq_none
theorem Ir:type_of% @List.getElem?_eq_none_iff:=@List.getElem?_eq_none_iff
theorem rH:type_of% @List.range'_append_1:=@List.range'_append_1
theorem k9:type_of% @List.filter_append:=@List.filter_append
theorem jg:type_of% @Bool.or_assoc:=@Bool.or_assoc
theorem Aj:type_of% @Bool.false_and:=@Bool.false_and
theorem i5:type_of% @Bool.or_false:=@Bool.or_false
theorem Ak:type_of% @Bool.false_or:=@Bool.false_or
theorem AK:type_of% @List.pairwise_cons:=@List.pairwise_cons
theorem qD:type_of% @List.of_mem_zip:=@List.of_mem_zip
theorem pC:type_of% @Bool.or_eq_false_iff:=@Bool.or_eq_false_iff
theorem ai:type_of% @if_pos:=@if_pos
theorem aj:type_of% @if_neg:=@if_neg
theorem jC:type_of% @decide_eq_true:=@decide_eq_true
theorem dy:type_of% @decide_eq_false:=@decide_eq_false
theorem cR:type_of% @decide_eq_true_eq:=@decide_eq_true_eq
def oM{p:Prop}(h:p:=by omega):p:=h
def sM{p:Prop}(h:p:=by simp):p:=h
def bL{n:Nat}:n<=n:=cq n
abbrev Bz:=ByteArray
abbrev Np:=Nat->Prop
inductive V where
 |top
 |bool (b:Bool)
 |int (k:IntKind) (n:Int)
 |str (s:Bz)
 |bF
 |ptr (l i off st:Nat)
 |cL (g off:Nat)
 |bG (v:V) (off:Nat)
 |sl (x:Bool) (xs:List V)
 |arr (l off len st:Nat)
 |cG
 |map (l:Nat)
 |fn (f:Fn) (first caps:List V)
 |bB
 |iface (t:TypeId) (v:V)
 |dr
 |cj (l:Nat)
 |agg (cs:List V)
 |aH (vs:List V)
 deriving Inhabited
def V.cells:V->List V
 |.agg cs=>cs
 |v=>[v]
structure kg where
 b:Nat
 N:Nat
 sz:Nat
structure En where
 I:Nat->Nat->Option Value
 ρ:Nat->Nat->Option kg
inductive VR(E:En):V->Value->Prop
 |top (u:Value):VR E .top u
 |bool (b:Bool):VR E (.bool b) (.bool b)
 |int (k:IntKind) (n:Int):VR E (.int k n) (.int k n)
 |str (s:Bz):VR E (.str s) (.string s)
 |bF:VR E .bF (.pointer none)
 |ptr {l st:Nat} {x:kg} (i off:Nat) (h:E.ρ l st=some x):VR E (.ptr l i off st) (.pointer (some ⟨x.b,i*x.sz+off,none⟩))
 |cL (g off:Nat):VR E (.cL g off) (.pointer (some ⟨g,off,none⟩))
 |bG {v:V} {b o:Nat} (off:Nat) (hI:∀j,j<v.cells.length->(E.I b (o+j)).isSome=true) (hv:∀(j:Nat) (c':V) (c:Value),v.cells[j]?=some c'->E.I b (o+j)=some c->VR E c' c):
  VR E (.bG v off) (.pointer (some ⟨b,o+off,none⟩))
 |slnil (x:Bool):VR E (.sl x []) (.slice none 0 0)
 |kL (x:Bool) (a:Addr):VR E (.sl x []) (.slice (some a) 0 0)
 |sl {x:Bool} {xs:List V} {b o cap sz:Nat} (hc:xs.length<=cap) (hx:x=true->cap=xs.length) (hs:∀v,v∈xs->v.cells.length=sz)
  (hI:∀i j,i<xs.length->j<sz->(E.I b (o+i*sz+j)).isSome=true)
  (hv:∀(i:Nat) (v:V) (j:Nat) (c':V) (c:Value),xs[i]?=some v->v.cells[j]?=some c'->E.I b (o+i*sz+j)=some c->VR E c' c):VR E (.sl x xs) (.slice (some ⟨b,o,none⟩) xs.length cap)
 |arr {l off len cap st:Nat} {x:kg} (h:E.ρ l st=some x) (hN:(off+cap)*x.sz<=x.N) (hc:len<=cap):VR E (.arr l off len st) (.slice (some ⟨x.b,off*x.sz,none⟩) len cap)
 |cG:VR E .cG (.map none)
 |map {l:Nat} {x:kg} (h:E.ρ l 0=some x):VR E (.map l) (.map (some x.b))
 |fn {f:Fn} {fs cs:List V} {us ws:Array Value} (h1:fs.length=us.size) (h2:cs.length=ws.size) (g1:∀(i:Nat) (v:V) (u:Value),fs[i]?=some v->us[i]?=some u->VR E v u) (g2:∀(i:Nat) (v:V) (u:Value),cs[i]?=some v->ws[i]?=some u->VR E v u):
  VR E (.fn f fs cs) (.func f us ws)
 |bB:VR E .bB .nilFunc
 |iface {v:V} {u:Value} (t:TypeId) (h:VR E v u):VR E (.iface t v) (.iface t u)
 |dr:VR E .dr .nilIface
 |cj {l:Nat} {x:kg} (h:E.ρ l 0=some x):VR E (.cj l) (.func (.yield x.b) #[] #[])
 |agg {cs:List V} {us:Array Value} (h:cs.length=us.size) (g:∀(i:Nat) (v:V) (u:Value),cs[i]?=some v->us[i]?=some u->VR E v u):VR E (.agg cs) (.agg us)
 |aH {cs:List V} {us:Array Value} (h:cs.length=us.size) (g:∀(i:Nat) (v:V) (u:Value),cs[i]?=some v->us[i]?=some u->VR E v u):VR E (.aH cs) (.tuple us)
def En.le(E E':En):Prop:=(∀b o c,E.I b o=some c->E'.I b o=some c)/\∀l st x,E.ρ l st=some x->E'.ρ l st=some x
def En.le_refl(E:En):E.le E:=⟨fun _ _ _ h=>h,fun _ _ _ h=>h⟩
def KU{E E':En}(h:E.le E'){b o:Nat}(hs:(E.I b o).isSome=true):(E'.I b o).isSome=true:=by
 obtain⟨c,hc⟩:=AQ.1 hs;rw[h.1 b o c hc];rfl
def Im{E E':En}(h:E.le E'){b o:Nat}{c:Value}(hs:(E.I b o).isSome=true)(hc:E'.I b o=some c):E.I b o=some c:=by
 obtain⟨d,hd⟩:=AQ.1 hs;rw[h.1 b o d hd]at hc;rw[hd,hc]
def VR.mono{E E':En}(h:E.le E'){v:V}{u:Value}(r:VR E v u):VR E' v u:=by
 induction r with
 |top u=>exact .top u
 |bool b=>exact .bool b
 |int k n=>exact .int k n
 |str s=>exact .str s
 |bF=>exact .bF
 |ptr i off hr=>exact .ptr i off (h.2 _ _ _ hr)
 |cL g off=>exact .cL g off
 |bG off hI _ ih=>exact .bG off (fun j hj=>KU h (hI j hj)) (fun j c' c hc hi=>ih j c' c hc (Im h (hI j (aT.1 hc).1) hi))
 |slnil x=>exact .slnil x
 |kL x a=>exact .kL x a
 |sl hc hx hs hI _ ih=>
  refine .sl hc hx hs (fun i j hi hj=>KU h (hI i j hi hj)) (fun i v j c' c hv hcc hi=>ih i v j c' c hv hcc ?_);have h1:=(aT.1 hv).1;have h2:=(aT.1 hcc).1;rw[hs v (dc hv)]at h2;exact Im h (hI i j h1 h2) hi
 |arr hr hN hc=>exact .arr (h.2 _ _ _ hr) hN hc
 |cG=>exact .cG
 |map hr=>exact .map (h.2 _ _ _ hr)
 |fn h1 h2 _ _ ih1 ih2=>exact .fn h1 h2 ih1 ih2
 |bB=>exact .bB
 |iface t _ ih=>exact .iface t ih
 |dr=>exact .dr
 |cj hr=>exact .cj (h.2 _ _ _ hr)
 |agg hl _ ih=>exact .agg hl ih
 |aH hl _ ih=>exact .aH hl ih
abbrev af:=List (Nat×V)
def af.get:af->Nat->Option V
 |[],_=>none
 |(k,v)::e,t=>if k=t then some v else af.get e t
def af.get_mem:∀{e:af} {t:Nat} {v:V},e.get t=some v->(t,v)∈e
 |[],_,_,h=>by simp[af.get]at h
 |(k,u)::e,t,v,h=>by
  simp only[af.get]at h;split at h
  .rename_i hk;subst hk;cases h;simp
  .simp[af.get_mem h]
def af.put(e:af)(d:Option Nat)(v:V):af:=match d with|some t=>(t,v)::e|none=>e
def af.keep(e:af):List Nat->af
 |[]=>[]
 |t::ts=>match e.get t with
  |some v=>(t,v)::af.keep e ts
  |none=>af.keep e ts
def fw(E:En)(e:af)(tmps:Array Value):Prop:=∀t v,e.get t=some v->∃u,tmps[t]?=some u/\VR E v u
structure LI where
 st:LoopState
 pend:Option Code
 ps:List Nat
 bT:Code
 body:Code
 e:af
 N:Nat
 deriving Inhabited
inductive Ob where
 |arr (xs:List V) (sz wr:Nat)
 |map (es:List (V×V)) (bs:List Nat) (ck:Nat)
 |iter (lm since:Nat) (seen:List Nat) (last:Nat)
 |dead
 |loop (i:LI)
 deriving Inhabited
abbrev St:=List Ob
def eY(S:St)(l:Nat):Prop:=∃o,S[l]?=some o/\o≠.dead
def vC(E:En)(w:World)(x:kg)(xs:List V)(n:Nat):Prop:=
 ∃cells t,w.heap[x.b]?=some (.cells cells t (0,0))/\cells.size=x.N/\n*x.sz<=x.N/\
  ∀i v,xs[i]?=some v->i<n->∀j c',v.cells[j]?=some c'->∃c,cells[i*x.sz+j]?=some c/\VR E c' c
def OR(E:En)(w:World)(l:Nat):Ob->Prop
 |.arr xs sz wr=>(0<sz/\wr<=xs.length)/\(∀v,v∈xs->v.cells.length=sz)/\(∀st x,E.ρ l st=some x->wr<=st->st<=xs.length/\x.sz=sz/\vC E w x xs st)
 |.map es bs ck=>∃x entries,E.ρ l 0=some x/\w.heap[x.b]?=some (.map entries ck)/\es.length=entries.size/\bs=entries.toList.map (·.born)/\
  ∀(i:Nat) (k v:V) (e:MapEntry),es[i]?=some (k,v)->entries[i]?=some e->VR E k e.key/\VR E v e.val
 |.iter lm since seen last=>∃x y,E.ρ l 0=some x/\E.ρ lm 0=some y/\w.heap[x.b]?=some (.mapIter (some y.b) since seen.toArray last)
 |.dead=>True
 |.loop i=>∃x r,E.ρ l 0=some x/\w.heap[x.b]?=some (.loop r)/\r.state=i.st/\r.pending=i.pend/\r.params.toList=i.ps/\r.assign=i.bT/\r.body=i.body/\r.tmps.size=i.N/\fw E i.e r.tmps
def own(E:En)(S:St)(b:Nat):Prop:=∃l st x,eY S l/\E.ρ l st=some x/\x.b=b
def yU(g off:Nat):Option (IntKind×Int):=
 if g=0/\off<256 then some (.u8,if off=9\/off=10\/off=11\/off=12\/off=13\/off=32 then 1 else 0) else if g=2/\off<20 then some (.u64,10^off) else none
def yT(g:Nat):Option (Array Value):=if g=2 then some (((List.range 20).map fun i=>Value.int .u64 (((10^i:Nat):Int))).toArray) else none
def qev{g:Nat}(h:yT g≠none):∃k n,yU g 0=some (k,n):=by
 unfold yT at h;split at h
 .rename_i hg;subst hg;exact⟨.u64,1,by simp[yU]⟩
 .exact absurd rfl h
def GL(E:En)(w:World):Prop:=(∀g o k n,yU g o=some (k,n)->E.I g o=some (.int k n))/\∀g cs,yT g=some cs->∃t fz,w.heap[g]?=some (.cells cs t fz)
def GL.old{E E':En}{w w':World}(h:GL E w)(hI:∀b o c,E.I b o=some c->E'.I b o=some c)(hw:∀b cs t fz,w.heap[b]?=some (.cells cs t fz)->yT b≠none->w'.heap[b]?=w.heap[b]?):GL E' w':=
 ⟨fun g o k n hg=>hI _ _ _ (h.1 g o k n hg),fun g cs hg=>let ⟨t,fz,hh⟩:=h.2 g cs hg;⟨t,fz,(hw g cs t fz hh (by rw[hg];simp)).trans hh⟩⟩
def wL{w:World}{b:Nat}{o:Obj}(h:w.heap[b]?=some o):b<w.heap.size:=(gY.1 h).1
structure SR(E:En)(S:St)(w:World):Prop where
 gl:GL E w
 I:∀b o c,E.I b o=some c->w.cell? ⟨b,o,none⟩=some c
 obs:∀l o,S[l]?=some o->OR E w l o
 dom:∀l st x,E.ρ l st=some x->l<S.length
 apart:∀b o,own E S b->E.I b o=none
 lt:∀b,own E S b->b<w.heap.size
 inj:∀l l' st st' x x',eY S l->eY S l'->E.ρ l st=some x->E.ρ l' st'=some x'->x.b=x'.b->l=l'
structure Ext(n:Nat)(E:En)(S:St)(w:World)(E':En)(S':St)(w':World):Prop where
 size:w.heap.size<=w'.heap.size
 I:∀b o c,E.I b o=some c->E'.I b o=some c
 ρ:∀l st x,l<n->E.ρ l st=some x->E'.ρ l st=some x
 no:∀l,l<n->(∀st,E.ρ l st=none)->∀st,E'.ρ l st=none
 own:∀b,own E' S' b->own E S b\/w.heap.size<=b
 zw:∀b o c,E'.I b o=some c->E.I b o=some c\/Go.Proofs.YtbifpocccfkhhaaGreatDoor.own E S b\/w.heap.size<=b
 frame:∀b,b<w.heap.size->¬Go.Proofs.YtbifpocccfkhhaaGreatDoor.own E S b->w'.heap[b]?=w.heap[b]?
 out:(w'.output,w'.os)=(w.output,w.os)
def Ext.refl(n:Nat)(E:En)(S:St)(w:World):Ext n E S w E S w:=
 ⟨cq _,fun _ _ _ h=>h,fun _ _ _ _ h=>h,fun _ _ h=>h,fun _ h=>.inl h,fun _ _ _ h=>.inl h,fun _ _ _=>rfl,rfl⟩
def Ext.trans{n:Nat}{E E1 E2:En}{S S1 S2:St}{w w1 w2:World}(h:Ext n E S w E1 S1 w1)(g:Ext n E1 S1 w1 E2 S2 w2):Ext n E S w E2 S2 w2 where
 size:=fL h.size g.size
 I b o c x:=g.I b o c (h.I b o c x)
 ρ l st x hl hx:=g.ρ l st x hl (h.ρ l st x hl hx)
 no l hl hx:=g.no l hl (h.no l hl hx)
 own b hb:=by
  rcases g.own b hb with hb|hb
  .exact h.own b hb
  .exact .inr (fL h.size hb)
 zw b o c hc:=by
  rcases g.zw b o c hc with hc|hb|hb
  .exact h.zw b o c hc
  .exact .inr (h.own b hb)
  .exact .inr (.inr (fL h.size hb))
 frame b hb hn:=by
  rw[g.frame b (jP hb h.size) (fun ho=>?_),h.frame b hb hn];rcases h.own b ho with ho|ho
  .exact hn ho
  .omega
 out:=g.out.trans h.out
def Ext.less{n m:Nat}{E E':En}{S S':St}{w w':World}(h:Ext n E S w E' S' w')(hm:m<=n):Ext m E S w E' S' w':=
 { h with ρ:=fun l st x hl hx=>h.ρ l st x (jP hl hm) hx,no:=fun l hl hx=>h.no l (jP hl hm) hx }
def Ext.le{E E':En}{S S':St}{w w':World}(h:Ext S.length E S w E' S' w')(r:SR E S w):E.le E':=
 ⟨h.I,fun l st x hx=>h.ρ l st x (r.dom l st x hx) hx⟩
def fw.mono{E E':En}{e:af}{tmps:Array Value}(h:fw E e tmps)(g:E.le E'):fw E' e tmps:=
 fun t v hv=>let ⟨u,hu,r⟩:=h t v hv;⟨u,hu,r.mono g⟩
def fw.put{E:En}{e:af}{tmps:Array Value}(h:fw E e tmps){d:Nat}{v:V}{u:Value}(hd:d<tmps.size)(r:VR E v u):fw E (e.put (some d) v) (tmps.setIfInBounds d u):=by
 intro t v' hv;simp only[af.put,af.get]at hv;split at hv
 .rename_i hk;subst hk;cases hv;exact⟨u,by simp[hd],r⟩
 .rename_i hk;obtain⟨u',hu,r'⟩:=h t v' hv;exact⟨u',by rw[nh hk];exact hu,r'⟩
def af.FV{e:af}:∀{ts:List Nat} {t:Nat} {v:V},(e.keep ts).get t=some v->e.get t=some v
 |[],_,_,h=>by simp[af.keep,af.get]at h
 |s::ts,t,v,h=>by
  simp only[af.keep]at h;split at h
  .rename_i v' hv;simp only[af.get]at h;split at h
   .rename_i hk;subst hk;cases h;exact hv
   .exact af.FV h
  .exact af.FV h
def fw.keep{E:En}{e:af}{tmps:Array Value}(h:fw E e tmps)(ts:List Nat):fw E (e.keep ts) tmps:=fun t v hv=>h t v (af.FV hv)
def qE(m:Nat)(E:En)(S:St)(w:World):List Deferred->Prop
 |[]=>True
 |d::ds=>(∃r,d.target=.collected r/\m<=r/\w.heap[r]?=some (.deferred (some []))/\¬own E S r/\∀d',d'∈ds->d'.target≠.collected r)/\qE m E S w ds
def qE.step{m n:Nat}{E E':En}{S S':St}{w w':World}(h:Ext n E S w E' S' w'):∀{ds:List Deferred},qE m E S w ds->qE m E' S' w' ds
 |[],_=>trivial
 |d::ds,⟨⟨r,h1,h2,h3,h4,h5⟩,hd⟩=>by
  have hlt:r<w.heap.size:=(gY.1 h3).1;refine⟨⟨r,h1,h2,(h.frame r hlt h4).trans h3,fun ho=>?_,h5⟩,qE.step h hd⟩;rcases h.own r ho with ho|ho
  .exact h4 ho
  .omega
def nu(m:Nat)(E:En)(S:St)(w:World)(ds:List Deferred):Prop:=m<=w.heap.size/\qE m E S w ds
def nu.step{m n:Nat}{E E':En}{S S':St}{w w':World}{ds:List Deferred}(h:Ext n E S w E' S' w')(g:nu m E S w ds):nu m E' S' w' ds:=
 ⟨fL g.1 h.size,g.2.step h⟩
structure Rel(N:Nat)(n0 m0:Nat)(E:En)(e:af)(S:St)(a:Act)(w:World):Prop where
 tmps:fw E e a.tmps
 size:a.tmps.size=N
 defers:nu m0 E S w a.defers
 base:n0<=S.length
 sr:SR E S w
def En.at(E:En)(l st:Nat)(x:kg):En:={ E with ρ:=fun l' st'=>if l'=l/\st'=st then some x else E.ρ l' st' }
def En.lay(E:En)(b:Nat)(cells:Array Value):En:={ E with I:=fun b' o=>if b'=b then cells[o]? else E.I b' o }
def vC.mono{E E':En}{w w':World}{x:kg}{xs:List V}{n:Nat}(h:vC E w x xs n)(g:E.le E')(hw:w'.heap[x.b]?=w.heap[x.b]?):vC E' w' x xs n:=by
 obtain⟨cells,t,h1,h2,h3,h4⟩:=h;refine⟨cells,t,hw.trans h1,h2,h3,fun i v hv hi j c' hc=>?_⟩;obtain⟨c,hc1,hc2⟩:=h4 i v hv hi j c' hc;exact⟨c,hc1,hc2.mono g⟩
def OR.mono{E E':En}{w w':World}{l:Nat}{o:Ob}(h:OR E w l o)(g:E.le E')(hb:∀st x,E'.ρ l st=some x->E.ρ l st=some x)
  (hw:∀st x,E.ρ l st=some x->w'.heap[x.b]?=w.heap[x.b]?):OR E' w' l o:=by
 cases o with
 |arr xs sz wr=>
  obtain⟨h0,h1,h2⟩:=h;refine⟨h0,h1,fun st x hx hwr=>?_⟩;obtain⟨a,b,c⟩:=h2 st x (hb st x hx) hwr;exact⟨a,b,c.mono g (hw st x (hb st x hx))⟩
 |map es bs ck=>
  obtain⟨x,entries,h1,h2,h3,hb,h4⟩:=h;refine⟨x,entries,g.2 _ _ _ h1,(hw 0 x h1).trans h2,h3,hb,fun i k v e hk he=>?_⟩;obtain⟨a,b⟩:=h4 i k v e hk he;exact⟨a.mono g,b.mono g⟩
 |iter lm since seen last=>
  obtain⟨x,y,h1,h2,h3⟩:=h;exact⟨x,y,g.2 _ _ _ h1,g.2 _ _ _ h2,(hw 0 x h1).trans h3⟩
 |dead=>trivial
 |loop i=>
  obtain⟨x,r,h1,h2,h3,h4,h5,h6,h7,h8,h9⟩:=h;exact⟨x,r,g.2 _ _ _ h1,(hw 0 x h1).trans h2,h3,h4,h5,h6,h7,h8,h9.mono g⟩
def qG{w w':World}{b o:Nat}(h:w'.heap[b]?=w.heap[b]?):w'.cell? ⟨b,o,none⟩=w.cell? ⟨b,o,none⟩:=by
 unfold World.cell?;simp only[h]
def oL{w:World}{b o:Nat}{c:Value}(h:w.cell? ⟨b,o,none⟩=some c):b<w.heap.size:=by
 unfold World.cell? at h;rcases pJ b w.heap.size with hb|hb
 .exact hb
 .simp[x8 hb]at h
def lJ{w:World}{o:Obj}{b:Nat}(h:b<w.heap.size):({ w with heap:=w.heap.push o }:World).heap[b]?=w.heap[b]?:=by
 simp only[pz];rw[aj oM]
def xA{w:World}{o:Obj}:({ w with heap:=w.heap.push o }:World).heap[w.heap.size]?=some o:=by
 simp
def SR.heap{E:En}{S:St}{w w':World}(h:SR E S w)(hw:w'.heap=w.heap):SR E S w' where
 gl:=h.gl.old (fun _ _ _ h=>h) (fun b _ _ _ _ _=>by rw[hw])
 I b o c hc:=(qG (w:=w) (w':=w') (by rw[hw])).trans (h.I b o c hc)
 obs l o ho:=(h.obs l o ho).mono (En.le_refl E) (fun _ _ x=>x) (fun _ _ _=>by rw[hw])
 dom:=h.dom
 apart:=h.apart
 lt b hb:=by rw[hw];exact h.lt b hb
 inj:=h.inj
def Ext.heap{E:En}{S:St}{w w':World}(n:Nat)(hw:w'.heap=w.heap)(ho:(w'.output,w'.os)=(w.output,w.os)):Ext n E S w E S w':=
 { Ext.refl n E S w with size:=by rw[hw];exact cq _,own:=fun _ h=>.inl h,zw:=fun _ _ _ h=>.inl h,frame:=fun _ _ _=>by rw[hw],out:=ho }
def zi{S:St}{l:Nat}(h:eY S l):l<S.length:=by
 obtain⟨o,ho,_⟩:=h;exact(aT.1 ho).1
def Le{S:St}{o:Ob}{l:Nat}(h:eY (S++[o]) l):eY S l\/l=S.length:=by
 obtain⟨p,hp,hd⟩:=h;rcases Nat.lt_trichotomy l S.length with hl|hl|hl
 .exact .inl ⟨p,by rw[b8 hl]at hp;exact hp,hd⟩
 .exact .inr hl
 .have:=(aT.1 hp).1;simp at this;omega
def iG{E:En}{l st:Nat}{x:kg}:(E.at l st x).ρ l st=some x:=by simp[En.at]
def oK{E:En}{l st l' st':Nat}{x:kg}(h:l'≠l):(E.at l st x).ρ l' st'=E.ρ l' st':=by simp[En.at,h]
def pR{E:En}{l st:Nat}{x:kg}(h:E.ρ l st=none):E.le (E.at l st x):=
 ⟨fun _ _ _ h=>h,fun l' st' y hy=>by
  by_cases hk:l'=l/\st'=st
  .obtain⟨rfl,rfl⟩:=hk;rw[h]at hy;cases hy
  .simp[En.at,hk];exact hy⟩
def SR.new{E:En}{S:St}{w:World}(h:SR E S w){o:Obj}{ob:Ob}{st N sz:Nat}
  (ho:OR (E.at S.length st ⟨w.heap.size,N,sz⟩) { w with heap:=w.heap.push o } S.length ob):
  SR (E.at S.length st ⟨w.heap.size,N,sz⟩) (S++[ob]) { w with heap:=w.heap.push o }/\
  Ext S.length E S w (E.at S.length st ⟨w.heap.size,N,sz⟩) (S++[ob]) { w with heap:=w.heap.push o }:=by
 have hno:∀st',E.ρ S.length st'=none:=fun st'=>by
  cases hr:E.ρ S.length st' with
  |none=>rfl
  |some x=>exact absurd (h.dom _ _ _ hr) oM
 have hle:E.le (E.at S.length st ⟨w.heap.size,N,sz⟩):=pR (hno st)
 have hown:∀b,own (E.at S.length st ⟨w.heap.size,N,sz⟩) (S++[ob]) b->own E S b\/b=w.heap.size:=by
  rintro b ⟨l,st',x,hl,hx,rfl⟩;by_cases hk:l=S.length
  .subst hk;by_cases hs:st'=st
   .subst hs;rw[iG]at hx;cases hx;exact .inr rfl
   .simp[En.at,hs,hno]at hx
  .rw[oK hk]at hx;exact .inl ⟨l,st',x,(Le hl).resolve_right hk,hx,rfl⟩
 refine⟨⟨h.gl.old hle.1 (fun b _ _ _ hb _=>lJ (wL hb)),?_,?_,?_,?_,?_,?_⟩,⟨by simp,hle.1,fun l st' x _ hx=>hle.2 l st' x hx,fun l hl hx st'=>by rw[oK oM];exact hx st',fun b hb=>(hown b hb).imp id (fun e=>by omega),fun b o c hc=>.inl hc,fun b hb _=>lJ hb,rfl⟩⟩
 .intro b o' c hc;have:=h.I b o' c hc;rw[qG (lJ (oL this))];exact this
 .intro l o' hl;rcases Nat.lt_trichotomy l S.length with hlt|heq|hgt
  .rw[b8 hlt]at hl;by_cases hd:o'=.dead
   .subst hd;trivial
   refine(h.obs l o' hl).mono hle (fun st' x hx=>by rw[oK oM]at hx;exact hx) (fun st' x hx=>lJ (h.lt _ ⟨l,st',x,⟨o',hl,hd⟩,hx,rfl⟩))
  .subst heq;simp at hl;subst hl;exact ho
  .have:=(aT.1 hl).1;simp at this;omega
 .intro l st' x hx;by_cases hk:l=S.length
  .subst hk;simp
  .rw[oK hk]at hx;have:=h.dom _ _ _ hx;simp;omega
 .intro b o' hb;rcases hown b hb with hb|rfl
  .exact h.apart b o' hb
  .cases hc:E.I w.heap.size o' with
   |none=>exact hc
   |some c=>exact absurd (oL (h.I _ _ _ hc)) oM
 .intro b hb;rcases hown b hb with hb|rfl
  .have:=h.lt b hb;simp;omega
  .simp
 .intro l l' st1 st2 x x' hl hl' hx hx' hb
  have key:∀l st' x,eY (S++[ob]) l->(E.at S.length st ⟨w.heap.size,N,sz⟩).ρ l st'=some x->(l=S.length/\x.b=w.heap.size)\/(l≠S.length/\eY S l/\E.ρ l st'=some x/\x.b<w.heap.size):=by
   intro l st' x hl hx;by_cases hk:l=S.length
   .subst hk;by_cases hs:st'=st
    .subst hs;rw[iG]at hx;cases hx;exact .inl ⟨rfl,rfl⟩
    .simp[En.at,hs,hno]at hx
   .rw[oK hk]at hx;have hl:=(Le hl).resolve_right hk;exact .inr ⟨hk,hl,hx,h.lt _ ⟨l,st',x,hl,hx,rfl⟩⟩
  rcases key l st1 x hl hx with ⟨h1,h2⟩|⟨h1,h2,h3,h4⟩<;>rcases key l' st2 x' hl' hx' with ⟨g1,g2⟩|⟨g1,g2,g3,g4⟩
  .omega
  .omega
  .omega
  .exact h.inj l l' st1 st2 x x' h2 g2 h3 g3 hb
def SR.lay{E:En}{S:St}{w:World}(h:SR E S w)(cells:Array Value)(t:TypeId):
  SR (E.lay w.heap.size cells) S { w with heap:=w.heap.push (.cells cells t (0,0)) }/\E.le (E.lay w.heap.size cells)/\
  Ext S.length E S w (E.lay w.heap.size cells) S { w with heap:=w.heap.push (.cells cells t (0,0)) }:=by
 have hno:∀o,E.I w.heap.size o=none:=fun o=>by
  cases hc:E.I w.heap.size o with
  |none=>rfl
  |some c=>exact absurd (oL (h.I _ _ _ hc)) oM
 have hle:E.le (E.lay w.heap.size cells):=⟨fun b o c hc=>by
  by_cases hb:b=w.heap.size
  .subst hb;rw[hno]at hc;cases hc
  .simp[En.lay,hb];exact hc,fun _ _ _ h=>h⟩
 refine⟨⟨h.gl.old hle.1 (fun b _ _ _ hb _=>lJ (wL hb)),?_,?_,h.dom,?_,?_,h.inj⟩,hle,⟨by simp,hle.1,fun _ _ _ _ hx=>hx,fun _ _ hx=>hx,fun b hb=>.inl hb,?_,fun b hb _=>lJ hb,rfl⟩⟩
 .intro b o c hc;by_cases hb:b=w.heap.size
  .subst hb;simp only[En.lay,if_true]at hc;unfold World.cell?;simpa using hc
  .simp only[En.lay,hb,if_false]at hc;have:=h.I b o c hc;rw[qG (lJ (oL this))];exact this
 .intro l o hl;by_cases hd:o=.dead
  .subst hd;trivial
  exact(h.obs l o hl).mono hle (fun _ _ hx=>hx) (fun st' x hx=>lJ (h.lt _ ⟨l,st',x,⟨o,hl,hd⟩,hx,rfl⟩))
 .intro b o hb;have h1:=h.lt b hb;simp only[En.lay];rw[aj oM];exact h.apart b o hb
 .intro b hb;have:=h.lt b hb;simp;omega
 .intro b o c hc;by_cases hb:b=w.heap.size
  .exact .inr (.inr oM)
  .simp only[En.lay,hb,if_false]at hc;exact .inl hc
def si{S:St}{l l':Nat}{o:Ob}(h:eY (S.set l o) l')(hl:eY S l):eY S l':=by
 by_cases hk:l'=l
 .subst hk;exact hl
 .obtain⟨p,hp,hd⟩:=h;rw[bC (Ne.symm hk)]at hp;exact⟨p,hp,hd⟩
def SR.change{E E':En}{S:St}{w w':World}{l:Nat}{ob:Ob}(h:SR E S w)(hl:eY S l)(hI:E'.I=E.I)(hle:E.le E')
  (ho:∀l' st,l'≠l->E'.ρ l' st=E.ρ l' st)
  (hb:∀st y,E'.ρ l st=some y->(∃st' z,E.ρ l st'=some z/\z.b=y.b)\/(w.heap.size<=y.b/\y.b<w'.heap.size/\∃st' z,E.ρ l st'=some z))
  (hs:w.heap.size<=w'.heap.size) (hw:∀b,b<w.heap.size->(∀st y,E.ρ l st=some y->y.b≠b)->w'.heap[b]?=w.heap[b]?)
  (hout:(w'.output,w'.os)=(w.output,w.os)) (hn:OR E' w' l ob):SR E' (S.set l ob) w'/\Ext S.length E S w E' (S.set l ob) w':=by
 have hown:∀b,own E' (S.set l ob) b->own E S b\/(w.heap.size<=b/\b<w'.heap.size):=by
  rintro b ⟨l',st,x,hl',hx,rfl⟩;by_cases hk:l'=l
  .subst hk;rcases hb st x hx with ⟨st',z,hz,he⟩|hb
   .exact .inl ⟨l',st',z,hl,hz,he⟩
   .exact .inr ⟨hb.1,hb.2.1⟩
  .rw[ho l' st hk]at hx;exact .inl ⟨l',st,x,si hl' hl,hx,rfl⟩
 have hnot:∀b,b<w.heap.size->¬own E S b->w'.heap[b]?=w.heap[b]?:=fun b hlt hno=>hw b hlt fun st y hy e=>hno ⟨l,st,y,hl,hy,e⟩
 refine ⟨⟨h.gl.old hle.1 (fun b _ _ _ hb hg=>hw b (wL hb) fun st y hy he=>by
  obtain⟨k,n,hn⟩:=qev hg;have:=h.gl.1 _ _ _ _ hn
  rw[h.apart b 0 ⟨l,st,y,hl,hy,he⟩] at this;cases this),?_,?_,?_,?_,?_,?_⟩,⟨hs,hle.1,fun l' st x _ hx=>hle.2 l' st x hx,fun l' _ hx st=>by
   by_cases hk:l'=l
   .subst hk
    cases hy:E'.ρ l' st with
    |none=>rfl
    |some y=>rcases hb st y hy with ⟨st',z,hz,_⟩|⟨_,_,st',z,hz⟩<;>(rw[hx st']at hz;cases hz)
   .rw[ho l' st hk];exact hx st,fun b hb'=>(hown b hb').imp id And.left,fun b o c hc=>.inl (by rw[hI]at hc;exact hc),hnot,hout⟩⟩
 .intro b o c hc;rw[hI]at hc;have h1:=h.I b o c hc;rw[qG (hnot b (oL h1) fun ho'=>by rw[h.apart b o ho']at hc;cases hc)];exact h1
 .intro l' o' hl';by_cases hk:l'=l
  .subst hk;have:=bJ (l:=S) (i:=l') (a:=ob) (zi hl);rw[this]at hl';cases hl';exact hn
  .rw[bC (Ne.symm hk)]at hl';by_cases hd:o'=.dead
   .subst hd;trivial
   refine(h.obs l' o' hl').mono hle (fun st x hx=>by rw[ho l' st hk]at hx;exact hx) (fun st x hx=>?_);have hlv:eY S l':=⟨o',hl',hd⟩;exact hw _ (h.lt _ ⟨l',st,x,hlv,hx,rfl⟩) fun st' y hy e=>hk (h.inj l' l st st' x y hlv hl hx hy e.symm)
 .intro l' st x hx;by_cases hk:l'=l
  .subst hk;simp[zi hl]
  .rw[ho l' st hk]at hx;have:=h.dom _ _ _ hx;simpa using this
 .intro b o hb';rw[hI];rcases hown b hb' with hb'|⟨hb',_⟩
  .exact h.apart b o hb'
  .cases hc:E.I b o with
   |none=>rfl
   |some c=>exact absurd (oL (h.I _ _ _ hc)) oM
 .intro b hb';rcases hown b hb' with hb'|hb'
  .exact jP (h.lt b hb') hs
  .exact hb'.2
 .intro l1 l2 st1 st2 x x' h1 h2 hx hx' he;by_cases k1:l1=l<;>by_cases k2:l2=l
  .omega
  .exfalso;subst k1;rw[ho l2 st2 k2]at hx';have hv2:eY S l2:=si h2 hl;rcases hb st1 x hx with ⟨st',z,hz,hzb⟩|⟨hge,_⟩
   .exact k2 (h.inj l2 l1 st2 st' x' z hv2 hl hx' hz oM)
   .have:=h.lt _ ⟨l2,st2,x',hv2,hx',rfl⟩;omega
  .exfalso;subst k2;rw[ho l1 st1 k1]at hx;have hv1:eY S l1:=si h1 hl;rcases hb st2 x' hx' with ⟨st',z,hz,hzb⟩|⟨hge,_⟩
   .exact k1 (h.inj l1 l2 st1 st' x z hv1 hl hx hz oM)
   .have:=h.lt _ ⟨l1,st1,x,hv1,hx,rfl⟩;omega
  .rw[ho l1 st1 k1]at hx;rw[ho l2 st2 k2]at hx';exact h.inj l1 l2 st1 st2 x x' (si h1 hl) (si h2 hl) hx hx' he
def over(C:Array Value)(o:Nat):List Value->Array Value
 |[]=>C
 |u::us=>over (C.setIfInBounds o u) (o+1) us
def zB:∀(us:List Value) (C:Array Value) (o:Nat),(over C o us).size=C.size
 |[],_,_=>rfl
 |u::us,C,o=>by rw[over,zB us];simp
def xu:∀(us:List Value) (C:Array Value) (o k:Nat),o+us.length<=C.size->(over C o us)[k]?=if o<=k/\k<o+us.length then us[k-o]? else C[k]?
 |[],C,o,k,_=>by simp only[over,kj];rw[aj oM]
 |u::us,C,o,k,h=>by
  simp only[eE]at h;rw[over,xu us _ _ _ (by simp;omega)];by_cases h1:k=o
  .subst h1;rw[aj oM,ai sM];simp only[Nat.sub_self,vK];rw[HZ oM]
  .by_cases h2:o+1<=k/\k<o+1+us.length
   .rw[ai h2,ai (by simp;omega)];obtain⟨d,rfl⟩:∃d,k=o+1+d:=⟨k-(o+1),by omega⟩;rw[show o+1+d-(o+1)=d by omega,show o+1+d-o=d+1 by omega,tG]
   .rw[aj h2,aj (by simp;omega),nh (Ne.symm h1)]
def Value.flat:Value->Bool
 |.agg _=>false
 |.tuple _=>false
 |_=>true
def World.put(w:World)(b:Nat)(C:Array Value)(t:TypeId):World:={ w with heap:=w.heap.setIfInBounds b (.cells C t (0,0)) }
def G6{w:World}{b:Nat}{C:Array Value}{t:TypeId}(h:b<w.heap.size):(World.put w b C t).heap[b]?=some (.cells C t (0,0)):=by
 simp[World.put,h]
def L9{w:World}{b b':Nat}{C:Array Value}{t:TypeId}(h:b'≠b):(World.put w b C t).heap[b']?=w.heap[b']?:=by
 simp[World.put,nh (Ne.symm h)]
def Yj{w:World}{b:Nat}{C:Array Value}{t:TypeId}:(World.put w b C t).heap.size=w.heap.size:=by simp[World.put]
def Be{w:World}{b o:Nat}{C:Array Value}{t:TypeId}{f:Nat×Nat}(h:w.heap[b]?=some (.cells C t f)):w.cell? ⟨b,o,none⟩=C[o]?:=by
 simp[World.cell?,h]
def qen{w:World}{b o:Nat}{C:Array Value}{t:TypeId}(h:w.heap[b]?=some (.cells C t (0,0))):w.frozen? ⟨b,o,none⟩=false:=by
 simp[World.frozen?,h]
def qjp{w:World}{b o:Nat}{C:Array Value}{t:TypeId}{v:Value}(h:w.heap[b]?=some (.cells C t (0,0))):w.setCell ⟨b,o,none⟩ v=World.put w b (C.setIfInBounds o v) t:=by
 have hb:b<w.heap.size:=(gY.1 h).1;have he:w.heap[b]=.cells C t (0,0):=(gY.1 h).2;unfold World.setCell World.put;congr 1;apply x0;intro i;by_cases hi:i=b
 .subst hi;rw[HZ hb];rw[vv];simp[h]
 .rw[nh (Ne.symm hi),vv,aj (Ne.symm hi)]
def qiB{w:World}{b:Nat}{C D:Array Value}{t:TypeId}:World.put (World.put w b C t) b D t=World.put w b D t:=by
 simp[World.put]
def qiA{w:World}{b:Nat}{C:Array Value}{t:TypeId}(h:w.heap[b]?=some (.cells C t (0,0))):World.put w b C t=w:=by
 have hb:b<w.heap.size:=(gY.1 h).1
 have:w.heap.setIfInBounds b (.cells C t (0,0))=w.heap:=by
  apply x0;intro i;by_cases hi:i=b
  .subst hi;rw[HZ hb,h]
  .rw[nh (Ne.symm hi)]
 unfold World.put;rw[this]
def oI(b o i:Nat):(⟨b,o,none⟩:Addr).add i=⟨b,o+i,none⟩:=by
 unfold Addr.add;split
 .rename_i h;subst h;rfl
 .rfl
def qi5{P:Program}{w:World}{b o:Nat}{C:Array Value}{t:TypeId}{v:Value}(h:w.heap[b]?=some (.cells C t (0,0)))(ho:o<C.size)(hv:Value.flat v=true):
  (store ⟨b,o,none⟩ v).run P w=.ok () (World.put w b (C.setIfInBounds o v) t):=by
 have hc:w.cell? ⟨b,o,none⟩=some C[o]:=by rw[Be h];simp[ho]
 rw[<-qjp h];cases v<;>first|(simp[Value.flat]at hv;done)|simp[store,Sem.run,hc,qen h]
def MF{P:Program}{b o:Nat}{t:TypeId}:∀(us:List Value) (i:Nat) (w:World) (C:Array Value),w.heap[b]?=some (.cells C t (0,0))->o+i+us.length<=C.size->
  (∀u,u∈us->Value.flat u=true)->(storeCells ⟨b,o,none⟩ us i).run P w=.ok () (World.put w b (over C (o+i) us) t)
 |[],i,w,C,h,_,_=>by simp only[storeCells,over];rw[qiA h];rfl
 |u::us,i,w,C,h,hs,hf=>by
  simp only[eE]at hs;simp only[storeCells,oI,Sem.run_bind];rw[qi5 h oM (hf u sM)];simp only[Result.andThen];have hb:b<w.heap.size:=(gY.1 h).1;rw[MF us (i+1) _ _ (G6 hb) (by simp;omega) (fun x hx=>hf x (by simp[hx])),qiB];rfl
def YC{P:Program}{w:World}{b o:Nat}{u:Value}(h:w.cell? ⟨b,o,none⟩=some u):(load ⟨b,o,none⟩).run P w=.ok u w:=by
 simp[load,Sem.run,h]
def YD{P:Program}{w:World}{b o:Nat}:∀(n i:Nat) (acc:Array Value) (us:List Value),us.length=n->(∀j,j<n->w.cell? ⟨b,o+i+j,none⟩=us[j]?)->
  (loadCellsFrom ⟨b,o,none⟩ i n acc).run P w=.ok (acc++us.toArray) w
 |0,i,acc,us,hl,_=>by
  have:us=[]:=EG.1 hl;subst this;simp[loadCellsFrom,Sem.run_pure]
 |n+1,i,acc,us,hl,h=>by
  cases us with
  |nil=>simp at hl
  |cons u us=>
   simp only[eE,Nat.add_right_cancel_iff]at hl;simp only[loadCellsFrom,oI,Sem.run_bind];rw[YC (u:=u) (by simpa using h 0 oM)];simp only[Result.andThen]
   rw[YD n (i+1) (acc.push u) us hl (fun j hj=>by
    have:=h (j+1) oM;rw[tG]at this;rw[<-this];congr 2;omega)]
   simp
def qi3{P:Program}{w:World}{b o n:Nat}{us:List Value}(hl:us.length=n)(h:∀j,j<n->w.cell? ⟨b,o+j,none⟩=us[j]?):
  (loadCells ⟨b,o,none⟩ n).run P w=.ok us.toArray w:=by
 unfold loadCells;rw[YD n 0 #[] us hl (by simpa using h)];simp
def V.flat:V->Bool
 |.agg _=>false
 |.aH _=>false
 |.top=>false
 |_=>true
def V.isAgg:V->Bool
 |.agg _=>true
 |_=>false
def V.size(v:V):Nat:=v.cells.length
def V.part(v:V)(off:Nat):Option Nat->Option V
 |none=>v.cells[off]?
 |some n=>if off=0/\n=v.size/\v.isAgg=true then some v else match v with
  |.agg cs=>if off+n<=cs.length then some (.agg ((cs.drop off).take n)) else none
  |_=>none
def V.upd(v:V)(off n:Nat)(x:V):Option V:=
 if x.size=n/\(x.cells.all V.flat)=true then
  if off=0/\n=v.size then some x else match v with
  |.agg cs=>if off+n<=cs.length then some (.agg (cs.take off++x.cells++cs.drop (off+n))) else none
  |_=>none
 else none
def VR.flat{E:En}{v:V}{u:Value}(h:VR E v u)(hv:v.flat=true):Value.flat u=true:=by
 cases h<;>first|rfl|(simp[V.flat]at hv)
def VR.cells{E:En}{v:V}{u:Value}(h:VR E v u)(hnt:v≠.top):v.cells.length=u.cells.size/\∀(i:Nat) (c:V) (d:Value),v.cells[i]?=some c->u.cells[i]?=some d->VR E c d:=by
 have one:∀{v:V} {u:Value},VR E v u->v.cells=[v]->u.cells=#[u]->v.cells.length=u.cells.size/\∀(i:Nat) (c:V) (d:Value),v.cells[i]?=some c->u.cells[i]?=some d->VR E c d:=by
  intro v u h h1 h2;rw[h1,h2];refine⟨rfl,fun i c d hc hd=>?_⟩
  cases i with
  |zero=>simp at hc hd;subst hc;subst hd;exact h
  |succ i=>simp at hc
 cases h with
 |top u=>exact absurd rfl hnt
 |agg h g=>exact⟨h,g⟩
 |bool b=>exact one (.bool b) rfl rfl
 |int k n=>exact one (.int k n) rfl rfl
 |str s=>exact one (.str s) rfl rfl
 |bF=>exact one .bF rfl rfl
 |ptr i off hr=>exact one (.ptr i off hr) rfl rfl
 |cL g off=>exact one (.cL g off) rfl rfl
 |bG off hI hv=>exact one (.bG off hI hv) rfl rfl
 |slnil x=>exact one (.slnil x) rfl rfl
 |kL x a=>exact one (.kL x a) rfl rfl
 |sl hc hx hs hI hv=>exact one (.sl hc hx hs hI hv) rfl rfl
 |arr hr hN hc=>exact one (.arr hr hN hc) rfl rfl
 |cG=>exact one .cG rfl rfl
 |map hr=>exact one (.map hr) rfl rfl
 |fn h1 h2 g1 g2=>exact one (.fn h1 h2 g1 g2) rfl rfl
 |bB=>exact one .bB rfl rfl
 |iface t h=>exact one (.iface t h) rfl rfl
 |dr=>exact one .dr rfl rfl
 |cj hr=>exact one (.cj hr) rfl rfl
 |aH h g=>exact one (.aH h g) rfl rfl
def VR.Fh{E:En}{v:V}{u:Value}(h:VR E v u)(hv:v≠.top){i:Nat}{c:V}(hc:v.cells[i]?=some c):∃d,u.cells[i]?=some d/\VR E c d:=by
 obtain⟨h1,h2⟩:=h.cells hv;have hi:=(aT.1 hc).1;have:i<u.cells.size:=by omega
 exact⟨u.cells[i],by simp[this],h2 i c _ hc (by simp[this])⟩
def At(E:En)(w:World)(b o:Nat)(v:V):Prop:=∀j c,v.cells[j]?=some c->∃d,w.cell? ⟨b,o+j,none⟩=some d/\VR E c d
def At.cell{E:En}{P:Program}{w:World}{b o off:Nat}{v c:V}(h:At E w b o v)(hc:v.part off none=some c):∃d,(load ⟨b,o+off,none⟩).run P w=.ok d w/\VR E c d:=by
 obtain⟨d,hd,hr⟩:=h off c hc;exact⟨d,YC hd,hr⟩
def zL{E:En}{P:Program}{w:World}{b o n:Nat}{cs:List V}(hl:cs.length=n)(h:∀j c,cs[j]?=some c->∃d,w.cell? ⟨b,o+j,none⟩=some d/\VR E c d):
  ∃us,(loadCells ⟨b,o,none⟩ n).run P w=.ok us w/\VR E (.agg cs) (.agg us):=by
 have hex:∀j,j<n->∃d,w.cell? ⟨b,o+j,none⟩=some d:=fun j hj=>by
  obtain⟨d,hd,_⟩:=h j cs[j] sM;exact⟨d,hd⟩
 let us:List Value:=(List.range n).map fun j=>(w.cell? ⟨b,o+j,none⟩).getD undef
 have hus:us.length=n:=by simp[us]
 have hget:∀j,j<n->w.cell? ⟨b,o+j,none⟩=us[j]?:=fun j hj=>by
  obtain⟨d,hd⟩:=hex j hj;simp[us,hj,hd]
 refine⟨us.toArray,qi3 hus hget,.agg (by simp[hus,hl]) fun i v u hv hu=>?_⟩;have hi:i<n:=by rw[<-hl];exact(aT.1 hv).1
 obtain⟨d,hd,hr⟩:=h i v hv;rw[hget i hi]at hd;simp at hu;rw[hd]at hu;cases hu;exact hr
def At.agg{E:En}{P:Program}{w:World}{b o off n:Nat}{v r:V}(h:At E w b o v)(hr:v.part off (some n)=some r):
  ∃us,(loadCells ⟨b,o+off,none⟩ n).run P w=.ok us w/\VR E r (.agg us):=by
 simp only[V.part]at hr;split at hr
 .rename_i hc;obtain⟨rfl,rfl,ha⟩:=hc;cases hr;cases v<;>simp[V.isAgg]at ha;rename_i cs;exact zL rfl (fun j c hc=>by simpa using h j c hc)
 .split at hr
  .rename_i cs;split at hr
   .rename_i hle;cases hr;refine zL (by simp;omega) fun j c hc=>?_
    have hj:j<n:=by
     have:=(aT.1 hc).1;simp at this;omega
    rw[lj hj,kh]at hc;obtain⟨d,hd,hr⟩:=h (off+j) c hc;exact⟨d,by rw[<-hd];congr 2;omega,hr⟩
   .cases hr
  .cases hr
def jk(P:Program)(t:TypeId):Option (Option Nat):=
 match P.underlying t with
 |some (.struct _)|some (.array _ _)=>(P.info? t).map fun i=>some i.size
 |some _=>some none
 |none=>none
def dz{P:Program}{t:TypeId}{d:TypeDesc}{w:World}(h:P.underlying t=some d):(underlying t).run P w=.ok d w:=by
 simp[underlying,program,Sem.run_bind,Sem.run,Result.andThen,h,Sem.run_pure]
def Hm{P:Program}{t:TypeId}{i:TypeInfo}{w:World}(h:P.info? t=some i):(typeInfo t).run P w=.ok i w:=by
 have h':P.toTables.info? t=some i:=h;simp[typeInfo,program,Sem.run_bind,Sem.run,Result.andThen,h',Sem.run_pure]
def lO{P:Program}{t:TypeId}{i:TypeInfo}{w:World}(h:P.info? t=some i):(sizeOf t).run P w=.ok i.size w:=by
 simp[sizeOf,Hm h,Result.andThen]
def ME{E:En}{P:Program}{w:World}{b o off:Nat}{v r:V}{t:TypeId}{k:Option Nat}(hk:jk P t=some k)(h:At E w b o v)(hr:v.part off k=some r):
  ∃u,(loadVar t ⟨b,o+off,none⟩).run P w=.ok u w/\VR E r u:=by
 unfold jk at hk
 have scalar:∀d,P.underlying t=some d->(∀fs,d≠.struct fs)->(∀n e,d≠.array n e)->k=none->∃u,(loadVar t ⟨b,o+off,none⟩).run P w=.ok u w/\VR E r u:=by
  intro d hd h1 h2 hk;subst hk;obtain⟨u,hu,hr⟩:=h.cell (P:=P) hr;refine⟨u,?_,hr⟩
  have:(isAgg t).run P w=.ok false w:=by
   simp only[isAgg,Sem.run_bind,dz hd,Result.andThen];cases d<;>first|rfl|exact absurd rfl (h1 _)|exact absurd rfl (h2 _ _)
  simp only[loadVar,Sem.run_bind,this,Result.andThen];exact hu
 have agg:∀d,P.underlying t=some d->(∃fs,d=.struct fs)\/(∃n e,d=.array n e)->((P.info? t).map fun i=>some i.size)=some k->∃u,(loadVar t ⟨b,o+off,none⟩).run P w=.ok u w/\VR E r u:=by
  intro d hd h1 hk
  cases hi:P.info? t with
  |none=>rw[hi]at hk;cases hk
  |some i=>
   rw[hi]at hk;cases hk;obtain⟨us,hu,hr⟩:=h.agg (P:=P) hr
   have:(isAgg t).run P w=.ok true w:=by
    simp only[isAgg,Sem.run_bind,dz hd,Result.andThen];rcases h1 with ⟨fs,rfl⟩|⟨n,e,rfl⟩<;>rfl
   refine⟨.agg us,?_,hr⟩;simp only[loadVar,Sem.run_bind,this,Result.andThen,if_true,lO hi,hu];rfl
 cases hd:P.underlying t with
 |none=>rw[hd]at hk;cases hk
 |some d=>
  rw[hd]at hk;cases d<;>first
   |exact agg _ hd (.inl ⟨_,rfl⟩) hk
   |exact agg _ hd (.inr ⟨_,_,rfl⟩) hk
   |(cases hk;exact scalar _ hd (fun _=>by simp) (fun _ _=>by simp) rfl)
def ae(S:St)(p:V)(k:Option Nat):Option V:=
 match p with
 |.bG v off=>v.part off k
 |.ptr l i off st=>match S[l]? with
  |some (.arr xs _ wr)=>if wr<=st/\i<st then(xs[i]?).bind fun v=>v.part off k else none
  |_=>none
 |.cL g off=>match yU g off with
  |some (kd,n)=>(V.int kd n).part 0 k
  |none=>none
 |_=>none
def At.qhl{E:En}{S:St}{w:World}(hs:SR E S w){v:V}{b o:Nat}(hI:∀j,j<v.cells.length->(E.I b (o+j)).isSome=true)
  (hv:∀j c' c,v.cells[j]?=some c'->E.I b (o+j)=some c->VR E c' c):At E w b o v:=fun j c hc=>by
 obtain⟨d,hd⟩:=AQ.1 (hI j (aT.1 hc).1);exact⟨d,hs.I _ _ _ hd,hv j c d hc hd⟩
def At.qhn{E:En}{S:St}{w:World}(hs:SR E S w){l i st sz wr:Nat}{xs:List V}{v:V}{x:kg}(ho:S[l]?=some (.arr xs sz wr))(hx:E.ρ l st=some x)(hwr:wr<=st)(hi:i<st)(hv:xs[i]?=some v):
  At E w x.b (i*x.sz) v:=fun j c hc=>by
 obtain⟨h0,h1,h2⟩:=hs.obs l _ ho;obtain⟨h3,h4,cells,t,h5,h6,h7,h8⟩:=h2 st x hx hwr;obtain⟨d,hd,hr⟩:=h8 i v hv hi j c hc;exact⟨d,by rw[Be h5];exact hd,hr⟩
def YT{E:En}{S:St}{P:Program}{w:World}{p r:V}{u:Value}{t:TypeId}{k:Option Nat}(hs:SR E S w)(hp:VR E p u)(hk:jk P t=some k)(hr:ae S p k=some r):
    ∃d,(Instr.loadAt t u).run P w=.ok d w/\VR E r d:=by
  cases hp with
  |cL g off=>
    simp only[ae]at hr;split at hr
    · rename_i kd n hg
      obtain ⟨d,hd,hr⟩:=ME (P:=P) (b:=g) (o:=off) hk (show At E w g off (.int kd n) from fun j c hc=>by
        match j with
        |0=>simp[V.cells]at hc;subst hc;exact⟨_,hs.I _ _ _ (hs.gl.1 _ _ _ _ hg),.int kd n⟩
        |j+1=>simp[V.cells]at hc) hr
      exact⟨d,by simp only[Instr.loadAt,Instr.sureAddr,Sem.run_bind,Sem.run_pure,Result.andThen];exact hd,hr⟩
    · cases hr
  |bG off hI hv=>
    obtain⟨d,hd,hr⟩:=ME (P:=P) hk (At.qhl hs hI hv) hr;exact⟨d,by simp only[Instr.loadAt,Instr.sureAddr,Sem.run_bind,Sem.run_pure,Result.andThen];exact hd,hr⟩
  |ptr i off hx=>
    simp only[ae]at hr;split at hr
    · rename_i xs sz wr ho;split at hr
      · rename_i hc
        cases hv:xs[i]? with
        |none=>rw[hv]at hr;cases hr
        |some v=>
          rw[hv]at hr;obtain⟨d,hd,hr⟩:=ME (P:=P) hk (At.qhn hs ho hx hc.1 hc.2 hv) hr;exact⟨d,by simp only[Instr.loadAt,Instr.sureAddr,Sem.run_bind,Sem.run_pure,Result.andThen];exact hd,hr⟩
      · cases hr
    · cases hr
  |_=>simp[ae]at hr
def aA(S:St)(p:V)(n:Nat)(x:V):Option St:=
 match p with
 |.ptr l i off st=>match S[l]? with
  |some (.arr xs sz _)=>if st=xs.length then(xs[i]?).bind fun v=>(v.upd off n x).map fun v'=>S.set l (.arr (xs.set i v') sz st) else none
  |_=>none
 |_=>none
def qac{v x v':V}{off n:Nat}(h:v.upd off n x=some v'):x.size=n/\x.cells.all V.flat=true/\off+n<=v.cells.length/\v'.cells.length=v.cells.length/\
  ∀j,v'.cells[j]?=if off<=j/\j<off+n then x.cells[j-off]? else v.cells[j]?:=by
 unfold V.upd at h;split at h
 .rename_i hc;obtain⟨h1,h2⟩:=hc;refine⟨h1,h2,?_⟩;split at h
  .rename_i hc;obtain⟨rfl,rfl⟩:=hc;cases h;unfold V.size at h1;refine⟨by simp[V.size],h1,fun j=>?_⟩;by_cases hj:j<v.size
   .rw[ai oM];simp
   .rw[aj oM,mb (by unfold V.size at hj;omega),mb (by unfold V.size at hj;omega)]
  .split at h
   .rename_i cs _;split at h
    .rename_i hle;cases h;have hx:x.cells.length=n:=h1;have e1:(V.agg (cs.take off++x.cells++cs.drop (off+n))).cells=cs.take off++x.cells++cs.drop (off+n):=rfl;have e2:(V.agg cs).cells=cs:=rfl;rw[e1,e2]at *;generalize x.cells=xc at *;refine⟨hle,by simp;omega,fun j=>?_⟩;by_cases h1:j<off
     .rw[aj oM,cO,b8 (by simp;omega),lj h1]
     .by_cases h2:j<off+n
      .rw[ai oM,cO,bK (by simp;omega),b8 (by simp;omega)];congr 1;simp;omega
      .rw[aj oM,bK (by simp;omega),kh];congr 1;simp;omega
    .cases h
   .cases h
 .cases h
def nE{x:V}(h:x.cells.all V.flat=true):x≠.top:=by
 rintro rfl;simp[V.cells,V.flat]at h
def qd2{E:En}{x:V}{u:Value}(h:VR E x u)(hf:x.cells.all V.flat=true):∀c,c∈u.cells.toList->Value.flat c=true:=by
 intro c hc;obtain⟨h1,h2⟩:=h.cells (nE hf);obtain⟨i,hi,he⟩:=pH hc;have hi':i<x.cells.length:=by simp at hi;omega
 have:=h2 i x.cells[i] c sM (by rw[<-he];simp at hi;simp);exact this.flat (by simp at hf;exact hf _ (cI hi'))
def qi6{E:En}{P:Program}{w:World}{b o:Nat}{C:Array Value}{t T:TypeId}{i:TypeInfo}{x:V}{u:Value}(hi:P.info? t=some i)(h:w.heap[b]?=some (.cells C T (0,0)))
  (hx:VR E x u) (hf:x.cells.all V.flat=true) (hn:x.size=i.size) (ho:o+i.size<=C.size):
  (storeVar t ⟨b,o,none⟩ u).run P w=.ok () (World.put w b (over C o u.cells.toList) T):=by
 obtain⟨h1,h2⟩:=hx.cells (nE hf);have hs:u.cells.size=i.size:=by rw[<-hn,V.size,h1]
 simp only[storeVar,Sem.run_bind,lO hi,Result.andThen,hs,ne_eq,not_true_eq_false,if_false];rw[MF u.cells.toList 0 w C h (by simp;omega) (qd2 hx hf)];simp
def qjO{E:En}{S S':St}{P:Program}{w:World}{p x:V}{u d:Value}{t:TypeId}{i:TypeInfo}(hs:SR E S w)(hp:VR E p u)(hx:VR E x d)(hi:P.info? t=some i)(h:aA S p i.size x=some S'):
  ∃w',(Instr.storeAt t u d).run P w=.ok () w'/\SR E S' w'/\Ext S.length E S w E S' w'/\S.length<=S'.length:=by
 cases hp with
 |ptr ix off hr=>
  rename_i l st y;simp only[aA]at h;split at h
  .rename_i xs sz wr ho;split at h
   .rename_i hst
    cases hv:xs[ix]? with
    |none=>rw[hv]at h;cases h
    |some v=>
     rw[hv]at h;simp only[ez]at h
     cases hu:v.upd off i.size x with
     |none=>rw[hu]at h;cases h
     |some v'=>
      rw[hu]at h;cases h;obtain⟨u1,u2,u3,u4,u5⟩:=qac hu;have hob:=hs.obs l _ ho;obtain⟨h0,h1,h2⟩:=hob;have hlt:=(aT.1 hv).1;have hwr:wr<=st:=by omega
      obtain⟨h3,h4,C,T,h5,h6,h7,h8⟩:=h2 st y hr hwr;have hvs:v.cells.length=y.sz:=by rw[h4];exact h1 v (dc hv)
      have hmul:(ix+1)*y.sz<=xs.length*y.sz:=oD _ oM;have qnn:(ix+1)*y.sz=ix*y.sz+y.sz:=by rw[gk];omega
      have hfit:ix*y.sz+off+i.size<=C.size:=by rw[hst]at h7;omega
      have hb:y.b<w.heap.size:=(gY.1 h5).1;have hrun:=qi6 (P:=P) (o:=ix*y.sz+off) hi h5 hx u2 u1 hfit;have hc:=hx.cells (nE u2);refine⟨_,by simp only[Instr.storeAt,Instr.sureAddr,Sem.run_bind,Sem.run_pure,Result.andThen];exact hrun,?_⟩;have hlive:eY S l:=⟨_,ho,by simp⟩;have hsz:d.cells.toList.length=i.size:=by simp;rw[<-hc.1];exact u1
      have hnew:OR E (World.put w y.b (over C (ix*y.sz+off) d.cells.toList) T) l (.arr (xs.set ix v') sz st):=by
       refine⟨⟨h0.1,by simp;omega⟩,fun z hz=>?_,fun st' y' hy' hst'=>?_⟩
       .rcases List.mem_or_eq_of_mem_set hz with hz|rfl
        .exact h1 z hz
        .rw[u4];exact h1 v (dc hv)
       .obtain⟨g3,g4,_⟩:=h2 st' y' hy' oM;have:st'=st:=by omega
        subst this;rw[hr]at hy';cases hy';refine⟨by simp;omega,h4,_,T,G6 hb,by rw[zB];exact h6,h7,fun k z hz hk j c hcj=>?_⟩;rw[xu _ _ _ _ (by rw[hsz];exact hfit),hsz]
        have hzs:z.cells.length=y.sz:=by
         rw[h4];rcases List.mem_or_eq_of_mem_set (dc hz) with hz|rfl
         .exact h1 z hz
         .rw[u4];exact h1 v (dc hv)
        have hj:j<y.sz:=by rw[<-hzs];exact(aT.1 hcj).1
        by_cases hkx:k=ix
        .subst hkx;rw[bJ hlt]at hz;cases hz;rw[u5]at hcj;by_cases hin:off<=j/\j<off+i.size
         .rw[ai hin]at hcj;rw[ai oM];obtain⟨e,he,hre⟩:=hx.Fh (nE u2) hcj;exact⟨e,by rw[show k*y.sz+j-(k*y.sz+off)=j-off by omega];simpa using he,hre⟩
         .rw[aj hin]at hcj;rw[aj oM];exact h8 k v hv hk j c hcj
        .rw[bC (Ne.symm hkx)]at hz
         have hout:¬(ix*y.sz+off<=k*y.sz+j/\k*y.sz+j<ix*y.sz+off+i.size):=by
          have hoff:off+i.size<=y.sz:=by omega
          rcases pJ k ix with hlt'|hge
          .have:(k+1)*y.sz<=ix*y.sz:=oD _ hlt';rw[gk]at this;omega
          .have:(ix+1)*y.sz<=k*y.sz:=oD _ oM;rw[gk]at this;omega
         rw[aj hout];exact h8 k z hz hk j c hcj
      have:=hs.change (E':=E) (w':=World.put w y.b (over C (ix*y.sz+off) d.cells.toList) T) hlive rfl (En.le_refl E) (fun _ _ _=>rfl) (fun s z hz=>.inl ⟨s,z,hz,rfl⟩) (by rw[Yj];exact cq _)
       (fun b _ hno=>L9 (fun e=>hno _ _ hr e.symm)) rfl hnew
      exact⟨this.1,this.2,by simp⟩
   .cases h
  .cases h
 |_=>simp[aA]at h
def cu(P:Program)(E:En)(S:St)(w:World)(s:Sem Value)(r:V)(S':St):Prop:=
 ∃d E' w',s.run P w=.ok d w'/\VR E' r d/\SR E' S' w'/\Ext S.length E S w E' S' w'/\S.length<=S'.length
def cu.pure{P:Program}{E:En}{S:St}{w:World}{s:Sem Value}{r:V}{d:Value}(hs:SR E S w)(h:s.run P w=.ok d w)(hr:VR E r d):cu P E S w s r S:=
 ⟨d,E,w,h,hr,hs,Ext.refl _ _ _ _,cq _⟩
def xI{P:Program}{w:World}{t:TypeId}{C:Array Value}:(newRow t C).run P w=.ok ⟨w.heap.size,0,none⟩ { w with heap:=w.heap.push (.cells C t (0,0)) }:=by
 simp[newRow,newObj,Sem.run,Result.andThen]
def aC(S:St)(x:V):Option (V×St):=if(x.cells.all V.flat)=true/\0<x.size then some (.ptr S.length 0 0 1,S++[.arr [x] x.size 1]) else none
def YS{E:En}{S S':St}{P:Program}{w:World}{x r:V}{d:Value}{t:TypeId}(hs:SR E S w)(hx:VR E x d)(h:aC S x=some (r,S')):cu P E S w (Instr.box t d) r S':=by
 unfold aC at h;split at h
 .rename_i hc;obtain⟨hf,h0⟩:=hc;cases h;obtain⟨h1,h2⟩:=hx.cells (nE hf)
  have hno:E.ρ S.length 1=none:=by
   cases hr:E.ρ S.length 1 with
   |none=>rfl
   |some y=>exact absurd (hs.dom _ _ _ hr) oM
  obtain ⟨n1,n2⟩:=hs.new (o:=.cells d.cells t (0,0)) (ob:=.arr [x] x.size 1) (st:=1) (N:=d.cells.size) (sz:=x.size) (by
   refine⟨⟨h0,by simp⟩,fun v hv=>?_,fun st y hy hst=>?_⟩
   .simp at hv;subst hv;rfl
   .by_cases hs1:st=1
    .subst hs1;rw[iG]at hy;cases hy;refine⟨by simp,rfl,d.cells,t,xA,rfl,by simp[V.size,h1],fun i v hv hi j c hc=>?_⟩;have hi0:i=0:=by omega
     subst hi0;simp at hv;subst hv;obtain⟨e,he,hr⟩:=hx.Fh (nE hf) hc;exact⟨e,by simpa using he,hr.mono (pR hno)⟩
    .exfalso;simp only[En.at]at hy;rw[aj (by simp;exact hs1)]at hy;exact absurd (hs.dom _ _ _ hy) oM)
  refine⟨.pointer (some ⟨w.heap.size,0,none⟩),_,_,?_,?_,n1,n2,by simp⟩
  .simp only[Instr.box,newVar,Sem.run_bind,xI,Result.andThen,Sem.run_pure]
  .have:=VR.ptr (E:=E.at S.length 1 ⟨w.heap.size,d.cells.size,x.size⟩) (l:=S.length) (st:=1) 0 0 iG;simpa using this
 .cases h
def qk{P:Program}{t:TypeId}{i:TypeInfo}{z:Value}{w:World}(h:P.info? t=some i)(hz:i.zero=some z):(zeroValue t).run P w=.ok z w:=by
 simp[zeroValue,Sem.run_bind,Hm h,Result.andThen,hz,Sem.run_pure]
def qjq{E:En}{S S':St}{P:Program}{w:World}{x r:V}{z o:Value}{t:TypeId}{i:TypeInfo}(hi:P.info? t=some i)(hz:i.zero=some z)(hs:SR E S w)(hx:VR E x z)(h:aC S x=some (r,S')):
  cu P E S w (Instr.alloc t true o) r S':=by
 obtain⟨d,E',w',h1,h2⟩:=YS (P:=P) (t:=t) hs hx h;refine⟨d,E',w',?_,h2⟩;rw[<-h1];simp[Instr.alloc,Instr.box,Sem.run_bind,qk hi hz,Result.andThen]
def rS(p:V)(off:Nat):Option V:=
 match p with
 |.ptr l i o st=>some (.ptr l i (o+off) st)
 |.bG v o=>some (.bG v (o+off))
 |.cL g o=>some (.cL g (o+off))
 |_=>none
def VR.fa{E:En}{p r:V}{u:Value}{off:Nat}(hp:VR E p u)(h:rS p off=some r):∃b o,u=.pointer (some ⟨b,o,none⟩)/\VR E r (.pointer (some ⟨b,o+off,none⟩)):=by
 cases hp with
 |cL g o=>cases h;exact⟨_,_,rfl,.cL g (o+off)⟩
 |ptr i o hr=>
  cases h;exact⟨_,_,rfl,by have:=VR.ptr i (o+off) hr;rw[<-gj]at this;exact this⟩
 |bG o hI hv=>
  cases h;exact⟨_,_,rfl,by have:=VR.bG (o+off) hI hv;rw[<-gj]at this;exact this⟩
 |_=>simp[rS]at h
def JE(P:Program)(t:TypeId)(f:Nat):Option Nat:=
 match P.underlying t with
 |some (.struct fs)=>match fs[f]? with
  |some x=>match P.info? x.type with
   |some i=>if i.size=0 then none else some x.offset
   |none=>none
  |none=>none
 |_=>none
def qjC{E:En}{S:St}{P:Program}{w:World}{p r:V}{u:Value}{t:TypeId}{f off:Nat}(hs:SR E S w)(hp:VR E p u)(ho:JE P t f=some off)(h:rS p off=some r):cu P E S w (Instr.fieldAt t u f) r S:=by
 obtain⟨b,o,rfl,hr⟩:=hp.fa h;unfold JE at ho;split at ho<;>try cases ho
 rename_i fs hu;split at ho<;>try cases ho
 rename_i x hx;split at ho<;>try cases ho
 rename_i i hi;split at ho<;>try cases ho
 rename_i hz;refine cu.pure hs ?_ hr;simp only[Instr.fieldAt,Sem.run_bind,dz hu,Result.andThen,hx,Instr.sureAddr,Sem.run_pure,fieldPlace,lO hi,hz,if_false,oI]
def eJ(S:St)(sz:Nat)(p:V)(ix:Int):Option V:=
 match p with
 |.sl _ xs=>if 0<=ix then match xs[ix.toNat]? with
   |some v=>if v.size=sz then some (.bG v 0) else none
   |none=>none
  else none
 |.arr l off len st=>match S[l]? with
  |some (.arr _ s wr)=>if wr<=st/\s=sz/\0<=ix/\ix<len then some (.ptr l (off+ix.toNat) 0 st) else none
  |_=>none
 |_=>none
def wy(P:Program)(t:TypeId):Option Nat:=
 match P.underlying t with
 |some (.slice e)=>(P.info? e).map fun i=>i.size
 |_=>none
def qjE{E:En}{S:St}{P:Program}{w:World}{p r:V}{u:Value}{t:TypeId}{k:IntKind}{sz:Nat}{ix:Int}(hs:SR E S w)(hp:VR E p u)(ho:wy P t=some sz)(h:eJ S sz p ix=some r):
  cu P E S w (Instr.indexAt t u (.int k ix)) r S:=by
 unfold wy at ho;split at ho<;>try cases ho
 rename_i e hu
 cases hi:P.info? e with
 |none=>rw[hi]at ho;cases ho
 |some i=>
  rw[hi]at ho;cases ho
  have run:∀(b o len cap:Nat),0<=ix->ix<len->(Instr.indexAt t (.slice (some ⟨b,o,none⟩) len cap) (.int k ix)).run P w=.ok (.pointer (some ⟨b,o+ix.toNat*i.size,none⟩)) w:=by
   intro b o len cap h0 h1;simp only[Instr.indexAt,asIntOf,Sem.run_bind,Sem.run_pure,Result.andThen,dz hu];by_cases hl:len<=1
   .simp[dz hu,Result.andThen,h0,h1,lO hi,oI]
   .simp[Result.andThen,h0,h1,lO hi,oI]
  cases hp with
  |slnil x=>simp[eJ]at h
  |kL x a=>simp[eJ]at h
  |sl hc hx hss hI hv=>
   rename_i x xs b o cap sz';simp only[eJ]at h;split at h<;>try cases h
   rename_i h0;split at h<;>try cases h
   rename_i v hxs;split at h<;>try cases h
   rename_i hsz;have hlt:=(aT.1 hxs).1;have he:=hss v (dc hxs);have hsz':i.size=sz':=by rw[<-hsz,V.size,he]
   refine cu.pure hs (run b o _ cap h0 oM) ?_;rw[hsz'];have:=VR.bG (E:=E) (v:=v) (b:=b) (o:=o+ix.toNat*sz') 0 (fun j hj=>hI ix.toNat j hlt oM) (fun j c' c hc hi'=>hv ix.toNat v j c' c hxs hc hi');simpa using this
  |arr hr hN hc=>
   rename_i l off len cap st x;simp only[eJ]at h;split at h<;>try cases h
   rename_i ys s wr hob;split at h<;>try cases h
   rename_i hc';obtain⟨c1,c2,c3,c4⟩:=hc';have hsz:=((hs.obs l _ hob).2.2 st x hr c1).2.1;refine cu.pure hs (run _ _ _ cap c3 c4) ?_;have:=VR.ptr (off+ix.toNat) 0 hr;rw[<-c2,<-hsz,<-gk];simpa using this
  |_=>simp[eJ]at h
def elems(S:St)(v:V):Option (List V):=
 match v with
 |.sl _ xs=>some xs
 |.arr l off len st=>match S[l]? with
  |some (.arr xs _ wr)=>if wr<=st/\off+len<=st then some ((xs.drop off).take len) else none
  |_=>none
 |_=>none
def fV(xs:List V):List V:=xs.flatMap V.cells
def FR{xs:List V}{sz:Nat}(hs:∀v,v∈xs->v.cells.length=sz):∀{i j:Nat} {v:V},xs[i]?=some v->j<sz->(fV xs)[i*sz+j]?=v.cells[j]?:=by
 induction xs with
 |nil=>intro i j v h;simp at h
 |cons y ys ih=>
  intro i j v h hj;have hy:y.cells.length=sz:=hs y sM;simp only[fV,iO]
  cases i with
  |zero=>
   simp at h;subst h;rw[Nat.zero_mul,iQ,b8 oM]
  |succ i=>
   simp at h;rw[Nat.succ_mul,bK oM,hy,show i*sz+sz+j-sz=i*sz+j by omega];exact ih (fun v hv=>hs v (by simp[hv])) h hj
def nG{xs:List V}{sz:Nat}(hs:∀v,v∈xs->v.cells.length=sz):(fV xs).length=xs.length*sz:=by
 induction xs with
 |nil=>simp[fV]
 |cons y ys ih=>
  have hy:y.cells.length=sz:=hs y sM;have:=ih (fun v hv=>hs v (by simp[hv]));simp only[fV,iO,cJ,eE]at *;rw[this,hy,Nat.succ_mul,Nat.add_comm]
def TF{xs:List V}{sz:Nat}(hs:∀v,v∈xs->v.cells.length=sz)(h0:0<sz){k:Nat}{c:V}(h:(fV xs)[k]?=some c):∃v,xs[k/sz]?=some v/\v.cells[k%sz]?=some c:=by
 have hk:=(aT.1 h).1;rw[nG hs]at hk;have hi:k/sz<xs.length:=Nat.div_lt_of_lt_mul (by rw[Nat.mul_comm];exact hk);refine⟨xs[k/sz],by simp[hi],?_⟩;rw[<-FR hs (i:=k/sz) (j:=k%sz) (by simp[hi]) (Nat.mod_lt _ h0),show k/sz*sz+k%sz=k by rw[Nat.mul_comm];exact Nat.div_add_mod k sz];exact h
def xH{E:En}{S:St}{P:Program}{w:World}{v:V}{u:Value}{xs:List V}{sz:Nat}(hs:SR E S w)(hv:VR E v u)(he:elems S v=some xs)(hsz:∀x,x∈xs->x.size=sz)(h0:0<sz):
  ∃(a:Option Addr) (cap:Nat) (us:Array Value),u=.slice a xs.length cap/\(Builtin.firstCells sz xs.length u).run P w=.ok us w/\VR E (.agg (fV xs)) (.agg us):=by
 have hlen:=nG (xs:=xs) (sz:=sz) hsz
 cases hv with
 |slnil x=>
  cases he;exact⟨none,0,#[],rfl,by simp[Builtin.firstCells],.agg rfl (fun i v u h _=>by simp[fV]at h)⟩
 |kL x a=>
  cases he;exact⟨some a,0,#[],rfl,by simp[Builtin.firstCells,loadCells,loadCellsFrom],.agg rfl (fun i v u h _=>by simp[fV]at h)⟩
 |sl hc hx hss hI hvv=>
  rename_i x b o cap sz';cases he;by_cases hnil:xs=[]
  .subst hnil;obtain⟨us,h1,h2⟩:=zL (E:=E) (P:=P) (w:=w) (b:=b) (o:=o) (n:=0) (cs:=[]) rfl (fun j c hc=>by simp at hc);exact⟨_,_,us,rfl,by simpa[Builtin.firstCells]using h1,h2⟩
  .have hz:sz'=sz:=by
    obtain⟨y,ys,rfl⟩:=List.exists_cons_of_ne_nil hnil;rw[<-hss y sM];exact hsz y sM
   subst hz
   obtain ⟨us,h1,h2⟩:=zL (E:=E) (P:=P) (w:=w) (b:=b) (o:=o) (n:=xs.length * sz') (cs:=fV xs) hlen (fun k c hc=>by
    obtain⟨v,hv1,hv2⟩:=TF hsz h0 hc;have hi:=(aT.1 hv1).1;have hj:=Nat.mod_lt k h0;obtain⟨d,hd⟩:=AQ.1 (hI (k/sz') (k%sz') hi hj);have e:o+k/sz'*sz'+k%sz'=o+k:=by rw[gj];congr 1;rw[Nat.mul_comm];exact Nat.div_add_mod k sz'
    refine⟨d,?_,hvv _ v _ c d hv1 hv2 hd⟩;rw[<-e];exact hs.I _ _ _ hd)
   exact⟨_,_,us,rfl,by simpa[Builtin.firstCells]using h1,h2⟩
 |arr hr hN hc=>
  rename_i l off len cap st x;simp only[elems]at he;split at he<;>try cases he
  rename_i ys s wr hob;split at he<;>try cases he
  rename_i hc';obtain⟨c1,c2⟩:=hc';have Um:=hs.obs l _ hob;obtain⟨g1,g2,C,T,g3,g4,g5,g6⟩:=Um.2.2 st x hr c1;have hl:((ys.drop off).take len).length=len:=by simp;omega
  rw[hl];by_cases hnil:len=0
  .subst hnil;obtain⟨us,h1,h2⟩:=zL (E:=E) (P:=P) (w:=w) (b:=x.b) (o:=off*x.sz) (n:=0) (cs:=[]) rfl (fun j c hc=>by simp at hc);refine⟨_,_,us,rfl,by simpa[Builtin.firstCells]using h1,?_⟩;simpa[fV]using h2
  .have hz:x.sz=sz:=by
    rw[g2]
    have hm:ys[off]'oM∈(ys.drop off).take len:=by
     have:((ys.drop off).take len)[0]?=some (ys[off]'oM):=by
      rw[lj oM,kh];simp
     exact dc this
    rw[<-hsz _ hm];exact(Um.2.1 _ (cI _)).symm
   obtain ⟨us,h1,h2⟩:=zL (E:=E) (P:=P) (w:=w) (b:=x.b) (o:=off * x.sz) (n:=len * sz) (cs:=fV ((ys.drop off).take len)) (by rw[hlen,hl]) (fun k c hc=>by
    obtain⟨v,hv1,hv2⟩:=TF hsz h0 hc;have hi:k/sz<len:=by have:=(aT.1 hv1).1;omega
    rw[lj hi,kh]at hv1;obtain⟨d,hd,hr'⟩:=g6 (off+k/sz) v hv1 oM (k%sz) c hv2;refine⟨d,?_,hr'⟩;rw[Be g3,<-hd];congr 1;rw[hz,gk,gj];congr 1;rw[Nat.mul_comm (k/sz)];exact(Nat.div_add_mod k sz).symm)
   exact⟨_,_,us,rfl,by simpa[Builtin.firstCells]using h1,h2⟩
 |_=>simp[elems]at he
def TW:∀(r need c:Nat),c<2*need->256<=c->Builtin.growBy need r c<2*need
 |0,need,c,h,_=>by simpa[Builtin.growBy]using h
 |r+1,need,c,h,hc=>by
  simp only[Builtin.growBy];split
  .exact h
  .exact TW r need _ oM oM
def qg9{need cap:Nat}(h:cap<need):Builtin.nextslicecap need cap<=2*need:=by
 unfold Builtin.nextslicecap;split
 .omega
 .split
  .omega
  .exact Nat.le_of_lt (TW _ _ _ oM oM)
structure Ag(P:Program)(ts:Array TypeId)(sz bytes:Nat):Prop where
 h:∃sT xT e e' i z,ts[0]?=some sT/\ts[1]?=some xT/\P.underlying sT=some (.slice e)/\P.underlying xT=some (.slice e')/\P.info? e=some i/\i.size=sz/\i.bytes=bytes/\i.zero=some z/\z.cells.size=sz/\0<sz/\0<bytes
def A2(P:Program)(ts:Array TypeId):Option (Nat×Nat):=
 match ts[0]?,ts[1]? with
 |some sT,some xT=>match P.underlying sT,P.underlying xT with
  |some (.slice e),some (.slice _)=>match P.info? e with
   |some i=>match i.zero with
    |some z=>if z.cells.size=i.size/\0<i.size/\0<i.bytes then some (i.size,i.bytes) else none
    |none=>none
   |none=>none
  |_,_=>none
 |_,_=>none
def qbl{P:Program}{ts:Array TypeId}{sz bytes:Nat}(h:A2 P ts=some (sz,bytes)):Ag P ts sz bytes:=by
 unfold A2 at h;split at h<;>try cases h
 rename_i sT xT h1 h2;split at h<;>try cases h
 rename_i e e' h3 h4;split at h<;>try cases h
 rename_i i h5;split at h<;>try cases h
 rename_i z h6;split at h<;>try cases h
 rename_i hc;exact⟨sT,xT,e,e',i,z,h1,h2,h3,h4,h5,rfl,rfl,h6,hc.1,hc.2.1,hc.2.2⟩
def qm3(z:Array Value)(n:Nat):(Builtin.zeroCells z n).size=n*z.size:=by simp[Builtin.zeroCells]
def qiY{P:Program}{ts:Array TypeId}{T:TypeId}{sz bytes len cap:Nat}{w:World}{base a:Option Addr}{c:Nat}(ht:Ag P ts sz bytes)(hcap:len<=cap):
  (Builtin.append_ ts T #[.slice base len cap,.slice a 0 c]).run P w=.ok (.slice base len cap) w:=by
 obtain⟨sT,xT,e,e',i,z,h1,h2,h3,h4,h5,rfl,rfl,h6,h7,h8,h9⟩:=ht.h
 have hf:(Builtin.firstCells i.size 0 (.slice a 0 c)).run P w=.ok #[] w:=by
  cases a with
  |none=>simp[Builtin.firstCells]
  |some b=>simp[Builtin.firstCells,loadCells,loadCellsFrom]
 simp only[Builtin.append_,h1,h2,Builtin.lenOf];simp only[AE,vK,tG,Sem.run_bind,dz h3,dz h4,lO h5,Result.andThen,Sem.run_pure,hf,rJ,hcap,if_true,iz,if_false,Am];cases base<;>simp[storeCells,Result.andThen]
def qiX{P:Program}{ts:Array TypeId}{T t:TypeId}{sz bytes len cap n c b o:Nat}{w:World}{a:Option Addr}{new C:Array Value}(ht:Ag P ts sz bytes)(hcap:len+n<=cap)
  (hn:(Builtin.firstCells sz n (.slice a n c)).run P w=.ok new w) (hb:w.heap[b]?=some (.cells C t (0,0))) (hfit:o+len*sz+new.size<=C.size) (hf:∀u,u∈new.toList->Value.flat u=true):
  (Builtin.append_ ts T #[.slice (some ⟨b,o,none⟩) len cap,.slice a n c]).run P w=.ok (.slice (some ⟨b,o,none⟩) (len+n) cap) (World.put w b (over C (o+len*sz) new.toList) t):=by
 obtain⟨sT,xT,e,e',i,z,h1,h2,h3,h4,h5,rfl,rfl,h6,h7,h8,h9⟩:=ht.h;have hs:=MF (P:=P) (b:=b) (o:=o+len*i.size) new.toList 0 w C hb (by simpa using hfit) hf;simp only[Builtin.append_,h1,h2,AE,vK,tG,Sem.run_bind,dz h3,dz h4,lO h5,Result.andThen,Sem.run_pure,Builtin.lenOf,hn,hcap,if_true,iz,if_false,Am,oI,hs,rJ]
def YA{P:Program}{ts:Array TypeId}{T:TypeId}{sz bytes len cap n c:Nat}{w:World}{base a:Option Addr}{old new:Array Value}(ht:Ag P ts sz bytes)(hcap:cap<len+n)(hroom:(len+n)*bytes<=2^47)
  (ho:(Builtin.firstCells sz len (.slice base len cap)).run P { w with drawn:=w.drawn+1 }=.ok old { w with drawn:=w.drawn+1 })
  (hn:(Builtin.firstCells sz n (.slice a n c)).run P { w with drawn:=w.drawn+1 }=.ok new { w with drawn:=w.drawn+1 }):
  ∃(newCap:Nat) (rest:Array Value) (t:TypeId),len+n<=newCap/\rest.size=(newCap-(len+n))*sz/\
   (Builtin.append_ ts T #[.slice base len cap,.slice a n c]).run P w=.ok (.slice (some ⟨w.heap.size,0,none⟩) (len+n) newCap) { w with drawn:=w.drawn+1,heap:=w.heap.push (.cells (old++new++rest) t (0,0)) }:=by
 obtain⟨sT,xT,e,e',i,z,h1,h2,h3,h4,h5,rfl,rfl,h6,h7,h8,h9⟩:=ht.h;have hnc:=qg9 hcap
 have hle:¬Builtin.nextslicecap (len+n) cap*i.bytes > 2^48:=by
  have:Builtin.nextslicecap (len+n) cap*i.bytes<=2*(len+n)*i.bytes:=oD _ hnc;rw[Nat.mul_assoc]at this;omega
 have hnot:¬(len+n<=cap):=by omega
 let q:=Question.appendCap (len+n) cap e
 let newCap:=q.cut (w.tape w.drawn q)
 have hch:(choose (.appendCap (len+n) cap e)).run P w=.ok newCap { w with drawn:=w.drawn+1 }:=by
  simp[choose,Sem.run,Question.forced,newCap,q]
 have hnew:len+n<=newCap:=by
  simp only[newCap,q,Question.cut];omega
 refine⟨newCap,Builtin.zeroCells z.cells (newCap-(len+n)),e,hnew,by rw[qm3,h7],?_⟩
 have hask:∀(k:Nat) (v:World),(askRoom k).run P v=.ok () v:=fun k v=>by
  unfold askRoom;split<;>simp[mark,Sem.run,Sem.run_pure]
 have hbig:¬((((len+n:Nat):Int) > IntKind.i64.max)/\(False\/i.bytes=0)):=by
  rintro⟨_,h|h⟩
  .exact h
  .omega
 simp only[Builtin.append_,h1,h2,AE,vK,tG,Sem.run_bind,dz h3,dz h4,lO h5,Hm h5,Result.andThen,Sem.run_pure,Builtin.lenOf,hnot,if_false,iz,Am,if_true,hle,hch,hask,ho,hn,qk h5 h6,xI];rw[aj hbig];simp only[Sem.run_bind,Hm h5,Result.andThen,hle,if_false,Sem.run_pure,hch,hask,ho,hn,qk h5 h6,xI]
def fits(sz:Nat)(ys:List V):Bool:=ys.all fun y=>y.size==sz&&y.cells.all V.flat
def wE{sz:Nat}{ys:List V}(h:fits sz ys=true):∀y,y∈ys->y.size=sz:=fun y hy=>by
 simp only[fits,d6,bZ,beq_iff_eq]at h;exact(h y hy).1
def qdZ{sz:Nat}{ys:List V}(h:fits sz ys=true):∀c,c∈fV ys->c.flat=true:=fun c hc=>by
 simp only[fits,d6,bZ,beq_iff_eq]at h;obtain⟨y,hy,hc⟩:=tI.1 hc;exact(h y hy).2 c hc
def dY(S:St)(sz bytes:Nat)(d x:V):Option (V×St):=
 match elems S x with
 |none=>none
 |some ys=>match d with
  |.sl e xs=>if ys.isEmpty then some (d,S) else
   if e=true/\fits sz ys=true/\(xs.all fun v=>v.size==sz)=true/\(xs.length+ys.length)*bytes<=2^47 then
    some (.arr S.length 0 (xs.length+ys.length) (xs.length+ys.length),S++[.arr (xs++ys) sz (xs.length+ys.length)]) else none
  |.arr l off len st=>match S[l]? with
   |some (.arr zs s wr)=>if off=0/\len=zs.length/\st=zs.length/\s=sz/\fits sz ys=true/\(zs.length+ys.length)*bytes<=2^47 then
     some (.arr l 0 (zs.length+ys.length) (zs.length+ys.length),S.set l (.arr (zs++ys) sz wr)) else none
   |_=>none
  |_=>none
def oJ{E:En}{cs:List V}{us:Array Value}(h:VR E (.agg cs) (.agg us)):cs.length=us.size/\∀(i:Nat) (c:V),cs[i]?=some c->∃d,us[i]?=some d/\VR E c d:=by
 cases h with
 | agg h g=>exact ⟨h,fun i c hc=>by
  have hi:i<us.size:=by rw[<-h];exact(aT.1 hc).1
  exact⟨us[i],by simp[hi],g i c _ hc (by simp[hi])⟩⟩
def TD(xs ys:List V):fV (xs++ys)=fV xs++fV ys:=by simp[fV]
def Un{E:En}{w:World}{xs ys:List V}{sz:Nat}{old new rest:Array Value}{b:Nat}{t:TypeId}(h0:0<sz)(hx:∀v,v∈xs->v.size=sz)(hy:∀v,v∈ys->v.size=sz)
  (ho:VR E (.agg (fV xs)) (.agg old)) (hn:VR E (.agg (fV ys)) (.agg new)) (hb:w.heap[b]?=some (.cells (old++new++rest) t (0,0))):
  vC E w ⟨b,(old++new++rest).size,sz⟩ (xs++ys) (xs.length+ys.length):=by
 obtain⟨o1,o2⟩:=oJ ho;obtain⟨n1,n2⟩:=oJ hn
 have hxy:∀v,v∈xs++ys->v.cells.length=sz:=fun v hv=>by
  rcases cC.1 hv with hv|hv
  .exact hx v hv
  .exact hy v hv
 have lx:=nG (xs:=xs) (sz:=sz) hx;have ly:=nG (xs:=ys) (sz:=sz) hy;refine⟨_,t,hb,rfl,?_,fun i v hv hi j c hc=>?_⟩
 .simp only[Array.size_append];rw[<-o1,<-n1,lx,ly,gk];omega
 .show ∃e,(old++new++rest)[i*sz+j]?=some e/\VR E c e
  have hj:j<sz:=by
   have:=(aT.1 hc).1;rw[hxy v (dc hv)]at this;exact this
  have hf:=FR hxy hv hj;rw[hc,TD]at hf;by_cases hk:i*sz+j<(fV xs).length
  .rw[b8 hk]at hf;obtain⟨d,hd,hr⟩:=o2 _ _ hf;refine⟨d,?_,hr⟩;rw[Ee,tq oM];exact hd
  .rw[bK oM]at hf;obtain⟨d,hd,hr⟩:=n2 _ _ hf;have hlt:=(gY.1 hd).1;refine⟨d,?_,hr⟩;rw[Ee,Ah oM,tq oM,<-hd];congr 1;omega
def qbt{E:En}{l st:Nat}{x:kg}(h:∀y,E.ρ l st=some y->y=x):E.le (E.at l st x):=
 ⟨fun _ _ _ h=>h,fun l' st' y hy=>by
  by_cases hk:l'=l/\st'=st
  .obtain⟨rfl,rfl⟩:=hk;rw[h y hy];simp[En.at]
  .simp[En.at,hk];exact hy⟩
def qjr{E:En}{S S':St}{P:Program}{w:World}{d x r:V}{u a:Value}{ts:Array TypeId}{T:TypeId}{sz bytes:Nat}(hs:SR E S w)(ht:Ag P ts sz bytes)(hd:VR E d u)(hx:VR E x a)(h:dY S sz bytes d x=some (r,S')):
  cu P E S w (Builtin.append_ ts T #[u,a]) r S':=by
 have h0:0<sz:=by obtain⟨_,_,_,_,_,_,_,_,_,_,_,_,_,_,_,h,_⟩:=ht.h;exact h
 unfold dY at h;split at h<;>try cases h
 rename_i ys hel;have hs1:SR E S { w with drawn:=w.drawn+1 }:=hs.heap rfl;split at h
 .rename_i e xs;split at h
  .rename_i hemp;cases h;have hy0:ys=[]:=by simpa using hemp
   subst hy0;obtain⟨b,c,us,rfl,_,_⟩:=xH (P:=P) (sz:=sz) hs hx hel sM h0
   have hcap:∃base cap,u=.slice base xs.length cap/\xs.length<=cap:=by
    cases hd with
    |slnil x=>exact⟨none,0,rfl,by simp⟩
    |kL x a=>exact⟨some a,0,rfl,by simp⟩
    |sl hc=>exact⟨_,_,rfl,hc⟩
   obtain⟨base,cap,rfl,hc⟩:=hcap;exact cu.pure hs (qiY ht hc) hd
  .rename_i hemp;split at h<;>try cases h
   rename_i hc;obtain⟨rfl,hf,hxs,hroom⟩:=hc;have hxs':∀v,v∈xs->v.size=sz:=fun v hv=>by simp only[d6,beq_iff_eq]at hxs;exact hxs v hv
   have hys:=wE hf
   have hne:0<ys.length:=by
    cases ys with
    |nil=>simp at hemp
    |cons y ys=>simp
   obtain⟨b,c,us,rfl,hn,hn'⟩:=xH (P:=P) (sz:=sz) hs1 hx hel hys h0;obtain⟨b',c',rq,rfl,ho,ho'⟩:=xH (P:=P) (sz:=sz) hs1 hd (xs:=xs) rfl hxs' h0
   have hcap:c'<xs.length+ys.length:=by
    cases hd with
    |slnil x=>simp;exact hne
    |kL x a=>simp;exact hne
    |sl hc hx=>rw[hx rfl];omega
   obtain⟨newCap,rest,t,hnc,hrest,hrun⟩:=YA (T:=T) ht hcap hroom ho hn
   have hno:∀st,E.ρ S.length st=none:=fun st=>by
    cases hr:E.ρ S.length st with
    |none=>rfl
    |some y=>exact absurd (hs.dom _ _ _ hr) oM
   obtain ⟨n1,n2⟩:=hs1.new (o:=.cells (rq++us++rest) t (0,0)) (ob:=.arr (xs++ys) sz (xs.length+ys.length)) (st:=xs.length+ys.length) (N:=(rq++us++rest).size) (sz:=sz) (by
    refine⟨⟨h0,by simp⟩,fun v hv=>?_,fun st y hy hst=>?_⟩
    .rcases cC.1 hv with hv|hv
     .exact hxs' v hv
     .exact hys v hv
    .by_cases hs1:st=xs.length+ys.length
     .subst hs1;rw[iG]at hy;cases hy;exact⟨by simp,rfl,Un h0 hxs' hys (ho'.mono (pR (hno _))) (hn'.mono (pR (hno _))) xA⟩
     .exfalso;simp only[En.at]at hy;rw[aj (by simp;exact hs1),hno]at hy;cases hy)
   refine⟨_,_,_,hrun,?_,n1,(Ext.heap S.length (w:=w) (w':={ w with drawn:=w.drawn+1 }) rfl rfl).trans n2,by simp⟩;have hsz1:=(oJ ho').1;have hsz2:=(oJ hn').1;rw[nG hxs']at hsz1;rw[nG hys]at hsz2
   have:=VR.arr (E:=E.at S.length (xs.length+ys.length) ⟨w.heap.size,(rq++us++rest).size,sz⟩) (l:=S.length) (off:=0) (len:=xs.length+ys.length) (cap:=newCap) (st:=xs.length+ys.length) iG (by
    simp only[Array.size_append];rw[<-hsz1,<-hsz2,hrest,<-gk,<-gk];exact oD _ oM) hnc
   simpa using this
 .rename_i l off len st;split at h<;>try cases h
  rename_i zs s wr hob;split at h<;>try cases h
  rename_i hc;obtain⟨rfl,rfl,rfl,rfl,hf,hroom⟩:=hc;have hys:=wE hf
  have qeO:elems S (.arr l 0 zs.length zs.length)=some zs:=by
   obtain⟨⟨_,hw⟩,_⟩:=hs.obs l _ hob;simp[elems,hob,hw]
  obtain⟨⟨_,hw⟩,hzs,hst⟩:=hs.obs l _ hob;have hlive:eY S l:=⟨_,hob,by simp⟩
  cases hd with
  |arr hr hN hcc=>
   rename_i cap y;obtain⟨_,y8,C,t,g3,g4,g5,g6⟩:=hst _ y hr hw;have hlen:∀st' z,E.ρ l st'=some z->wr<=st'->st'<=zs.length:=fun st' z hz hwz=>(hst st' z hz hwz).1
   have hnone:ys≠[]->E.ρ l (zs.length+ys.length)=none:=fun hne=>by
    cases hr':E.ρ l (zs.length+ys.length) with
    |none=>rfl
    |some z=>
     have:=hlen _ z hr' oM;have:0<ys.length:=List.length_pos_iff.2 hne;omega
   by_cases hcap:zs.length+ys.length<=cap
   .obtain⟨b,c,us,rfl,hn,hn'⟩:=xH (P:=P) (sz:=s) hs hx hel hys h0;have hus:=(oJ hn').1;rw[nG hys]at hus;have hb:y.b<w.heap.size:=(gY.1 g3).1
    have hfit:0*y.sz+zs.length*s+us.size<=C.size:=by
     rw[<-hus,g4,y8];have:(zs.length+ys.length)*s<=(0+cap)*y.sz:=by rw[y8,iQ];exact oD _ hcap
     rw[gk]at this;omega
    have qeQ:∀v,v∈us.toList->Value.flat v=true:=fun v hv=>by
     obtain⟨i,hi,he⟩:=pH hv;simp at hi;have hi':i<(fV ys).length:=by rw[nG hys];omega
     obtain⟨d,hd,hr⟩:=(oJ hn').2 i (fV ys)[i] (by simp[hi'])
     have:d=v:=by
      have e1:us[i]?=some us[i]:=by simp[hi]
      rw[e1]at hd;cases hd;rw[<-he];simp
     subst this;exact hr.flat (qdZ hf _ (cI hi'))
    have hrun:=qiX (T:=T) ht hcap hn g3 hfit qeQ
    have hle:E.le (E.at l (zs.length+ys.length) y):=qbt fun z hz=>by
     by_cases hne:ys=[]
     .subst hne;simp at hz;rw[hr]at hz;cases hz;rfl
     .rw[hnone hne]at hz;cases hz
    have hnew:OR (E.at l (zs.length+ys.length) y) (World.put w y.b (over C (0*y.sz+zs.length*s) us.toList) t) l (.arr (zs++ys) s wr):=by
     have hall:∀v,v∈zs++ys->v.cells.length=s:=fun v hv=>by
      rcases cC.1 hv with hv|hv
      .exact hzs v hv
      .exact hys v hv
     refine⟨⟨h0,by simp;omega⟩,hall,fun st' z hz hwz=>?_⟩;by_cases hk:st'=zs.length+ys.length
     .subst hk;rw[iG]at hz;cases hz;refine⟨by simp,y8,_,t,G6 hb,by rw[zB];exact g4,by rw[y8,<-g4];rw[gk,hus];omega,fun i v hv hi j c hc=>?_⟩
      have hj:j<s:=by
       have:=(aT.1 hc).1;rw[hall v (dc hv)]at this;exact this
      rw[xu _ _ _ _ (by simpa using hfit),y8];have hfg:=FR hall hv hj;rw[hc,TD]at hfg;have lz:=nG (xs:=zs) (sz:=s) hzs;by_cases hin:i*s+j<zs.length*s
      .rw[aj oM];have hiz:i<zs.length:=Nat.lt_of_mul_lt_mul_right (a:=s) oM;rw[b8 hiz]at hv;obtain⟨d,hd1,hd2⟩:=g6 i v hv hiz j c hc;exact⟨d,by rw[y8]at hd1;exact hd1,hd2.mono hle⟩
      .rw[bK oM,lz]at hfg;obtain⟨d,hd1,hd2⟩:=(oJ hn').2 _ _ hfg;have hlt:=(gY.1 hd1).1;rw[ai (by simp;omega)];exact⟨d,by simpa using hd1,hd2.mono hle⟩
     .have hz':E.ρ l st'=some z:=by
       simp only[En.at]at hz;rw[aj (by simp;exact hk)]at hz;exact hz
      obtain⟨k1,k2,D,t',k3,k4,k5,k6⟩:=hst st' z hz' hwz;refine⟨by simp;omega,k2,?_⟩;by_cases hzb:z.b=y.b
      .rw[hzb]at k3;rw[g3]at k3;cases k3;refine⟨_,t,by rw[hzb];exact G6 hb,by rw[zB];exact k4,k5,fun i v hv hi j c hc=>?_⟩;have hiz:i<zs.length:=by omega
       rw[b8 hiz]at hv
       have hj:j<s:=by
        have:=(aT.1 hc).1;rw[hzs v (dc hv)]at this;exact this
       obtain⟨d,hd1,hd2⟩:=k6 i v hv hi j c hc;have hm:(i+1)*s<=zs.length*s:=oD _ oM;rw[gk]at hm;rw[xu _ _ _ _ (by simpa using hfit),k2,aj oM];exact⟨d,by rw[k2]at hd1;exact hd1,hd2.mono hle⟩
      .refine⟨D,t',by rw[L9 hzb];exact k3,k4,k5,fun i v hv hi j c hc=>?_⟩;rw[b8 oM]at hv;obtain⟨d,hd1,hd2⟩:=k6 i v hv hi j c hc;exact⟨d,hd1,hd2.mono hle⟩
    have hch:=hs.change (E':=E.at l (zs.length+ys.length) y) (w':=World.put w y.b (over C (0 * y.sz+zs.length * s) us.toList) t) hlive rfl hle (fun l' st' hl'=>oK hl') (fun st' z hz=>by
      by_cases hk:st'=zs.length+ys.length
      .subst hk;rw[iG]at hz;cases hz;exact .inl ⟨_,_,hr,rfl⟩
      .simp only[En.at]at hz;rw[aj (by simp;exact hk)]at hz;exact .inl ⟨_,_,hz,rfl⟩) (by rw[Yj];exact cq _)
     (fun b' _ hno=>L9 (fun e=>hno _ _ hr e.symm)) rfl hnew
    refine⟨_,_,_,hrun,?_,hch.1,hch.2,by simp⟩;have:=VR.arr (E:=E.at l (zs.length+ys.length) y) (l:=l) (off:=0) (len:=zs.length+ys.length) (cap:=cap) (st:=zs.length+ys.length) iG hN hcap;exact this
   .have hne:ys≠[]:=by rintro rfl;simp at hcap;omega
    obtain⟨b,c,us,rfl,hn,hn'⟩:=xH (P:=P) (sz:=s) hs1 hx hel hys h0;obtain⟨b',c',rq,he',ho,ho'⟩:=xH (P:=P) (sz:=s) hs1 (VR.arr hr hN hcc) qeO hzs h0;cases he';obtain⟨newCap,rest,t',hnc,hrest,hrun⟩:=YA (T:=T) ht oM hroom ho hn;have hsz1:=(oJ ho').1;have hsz2:=(oJ hn').1;rw[nG hzs]at hsz1;rw[nG hys]at hsz2;have hle:E.le (E.at l (zs.length+ys.length) ⟨w.heap.size,(rq++us++rest).size,s⟩):=pR (hnone hne)
    have hall:∀v,v∈zs++ys->v.cells.length=s:=fun v hv=>by
     rcases cC.1 hv with hv|hv
     .exact hzs v hv
     .exact hys v hv
    have hnew:OR (E.at l (zs.length+ys.length) ⟨w.heap.size,(rq++us++rest).size,s⟩) { w with drawn:=w.drawn+1,heap:=w.heap.push (.cells (rq++us++rest) t' (0,0)) } l (.arr (zs++ys) s wr):=by
     refine⟨⟨h0,by simp;omega⟩,hall,fun st' z hz hwz=>?_⟩;by_cases hk:st'=zs.length+ys.length
     .subst hk;rw[iG]at hz;cases hz;exact⟨by simp,rfl,Un (t:=t') h0 hzs hys (ho'.mono hle) (hn'.mono hle) sM⟩
     .have hz':E.ρ l st'=some z:=by
       simp only[En.at]at hz;rw[aj (by simp;exact hk)]at hz;exact hz
      obtain⟨k1,k2,D,t2,k3,k4,k5,k6⟩:=hst st' z hz' hwz;have qns:z.b<w.heap.size:=(gY.1 k3).1;refine⟨by simp;omega,k2,D,t2,by simp only[pz];rw[aj oM];exact k3,k4,k5,fun i v hv hi j c hc=>?_⟩;rw[b8 oM]at hv;obtain⟨d,hd1,hd2⟩:=k6 i v hv hi j c hc;exact⟨d,hd1,hd2.mono hle⟩
    have hch:=hs.change (E':=E.at l (zs.length+ys.length) ⟨w.heap.size,(rq++us++rest).size,s⟩) (w':={ w with drawn:=w.drawn+1,heap:=w.heap.push (.cells (rq++us++rest) t' (0,0)) }) hlive rfl hle (fun l' st' hl'=>oK hl') (fun st' z hz=>by
      by_cases hk:st'=zs.length+ys.length
      .subst hk;rw[iG]at hz;cases hz;exact .inr ⟨cq _,by show w.heap.size<(w.heap.push _).size;simp,_,_,hr⟩
      .simp only[En.at]at hz;rw[aj (by simp;exact hk)]at hz;exact .inl ⟨_,_,hz,rfl⟩) sM
     (fun b' hb' _=>by simp only[pz];rw[aj oM]) rfl hnew
    refine⟨_,_,_,hrun,?_,hch.1,hch.2,by simp⟩
    have:=VR.arr (E:=E.at l (zs.length+ys.length) ⟨w.heap.size,(rq++us++rest).size,s⟩) (l:=l) (off:=0) (len:=zs.length+ys.length) (cap:=newCap) (st:=zs.length+ys.length) iG (by
     simp only[Array.size_append];rw[<-hsz1,<-hsz2,hrest,<-gk,<-gk];exact oD _ oM) hnc
    simpa using this
 .cases h
def qi4{α β:Type}{P:Program}{w:World}{f:α->Sem β}{g:α->β}{xs:Array α}(h:∀x,x∈xs.toList->(f x).run P w=.ok (g x) w):(xs.mapM f).run P w=.ok (xs.map g) w:=by
 have key:∀(l:List α) (acc:Array β),(∀x,x∈l->(f x).run P w=.ok (g x) w)->
   (l.foldlM (fun(acc:Array β) a=>do let b <-f a;pure (acc.push b)) acc).run P w=.ok (acc++(l.map g).toArray) w:=by
  intro l
  induction l with
  |nil=>intro acc _;simp
  |cons x l ih=>
   intro acc h;simp only[List.foldlM_cons,Sem.run_bind,h x sM,Result.andThen,Sem.run_pure];rw[ih _ (fun y hy=>h y (by simp[hy]))];simp
 rw[Array.mapM_eq_foldlM_push,<-Array.foldlM_toList,key xs.toList #[] h];simp only[Array.empty_append];congr 1;apply x9.1;simp
def bj:V->List (Nat×Nat×V)->Option V
 |z,[]=>some z
 |z,(off,n,x)::ps=>(z.upd off n x).bind fun z'=>bj z' ps
def FT:∀(us:List Value) (k:Nat) (C:Array Value) (off:Nat),(us.zipIdx k).foldl (fun cs (x:Value×Nat)=>cs.setIfInBounds (off+x.2) x.1) C=over C (off+k) us
 |[],_,_,_=>rfl
 |u::us,k,C,off=>by
  simp only[List.zipIdx_cons,vJ,over];rw[FT us (k+1) _ off];rfl
def JG{E:En}{place:Nat->Option (Nat×Nat)}:∀(ps:List (Nat×Nat×Nat×V)) (us:List (Nat×Value)) (z r:V) (C:Array Value),ps.length=us.length->
  (∀(i:Nat) (p:Nat×Nat×Nat×V) (u:Nat×Value),ps[i]?=some p->us[i]?=some u->p.1=u.1/\place p.1=some (p.2.1,p.2.2.1)/\VR E p.2.2.2 u.2)->z.isAgg=true->VR E z (.agg C)->
  bj z (ps.map fun p=>p.2)=some r->(∀p,p∈ps->¬(p.2.1=0/\p.2.2.1=z.size))->∃D,Instr.fill place C us=some D/\VR E r (.agg D)
 |[],us,z,r,C,hl,_,_,hz,h,_=>by
  have:us=[]:=EG.1 hl.symm;subst this;simp only[jj,bj]at h;cases h;exact⟨C,rfl,hz⟩
 |(f,off,n,x)::ps,us,z,r,C,hl,hp,hag,hz,h,hne=>by
  cases us with
  |nil=>simp at hl
  |cons u us=>
   simp only[b9,bj]at h
   cases hu:z.upd off n x with
   |none=>rw[hu]at h;cases h
   |some z'=>
    rw[hu]at h;simp only[ez]at h;obtain⟨p1,p2,p3⟩:=hp 0 _ _ rfl rfl;obtain⟨u1,u2,u3,u4,u5⟩:=qac hu;simp only at p1 p2 p3;obtain⟨c1,c2⟩:=p3.cells (nE u2);obtain⟨z1,z2⟩:=hz.cells (by rintro rfl;simp[V.isAgg]at hag);have hC:(Value.agg C).cells=C:=rfl;rw[hC]at z1 z2;have hus:u.2.cells.size=n:=by rw[<-c1];exact u1
    have hag':z'.isAgg=true:=by
     have hne0:=hne (f,off,n,x) sM;unfold V.upd at hu;rw[ai ⟨u1,u2⟩,aj hne0]at hu;split at hu
     .split at hu<;>cases hu;rfl
     .cases hu
    have hz':VR E z' (.agg (over C off u.2.cells.toList)):=by
     have:∃cs,z'=.agg cs:=by cases z'<;>simp[V.isAgg]at hag';exact⟨_,rfl⟩
     obtain⟨cs,rfl⟩:=this;have e:(V.agg cs).cells=cs:=rfl;rw[e]at u4 u5;refine .agg (by rw[zB];omega) fun j v d hv hd=>?_
     rw[xu _ _ _ _ (by simp;omega)]at hd;rw[u5]at hv;simp only[pB,hus]at hd;by_cases hin:off<=j/\j<off+n
     .rw[ai hin]at hd hv;exact c2 _ _ _ hv (by simpa using hd)
     .rw[aj hin]at hd hv;exact z2 j v d hv hd
    obtain⟨D,hD,hr⟩:=JG ps us z' r (over C off u.2.cells.toList) (by simpa using hl) (fun i p q hi hj=>hp (i+1) p q (by simpa using hi) (by simpa using hj)) hag' hz' h
     (fun p hp=>by rw[V.size,u4];exact hne p (by simp[hp]))
    refine⟨D,?_,hr⟩
    have hz3:u.2.cells.zipIdx.foldl (fun cs (x:Value×Nat)=>cs.setIfInBounds (off+x.2) x.1) C=over C off u.2.cells.toList:=by
     rw[<-Ef,Array.toList_zipIdx,FT];rfl
    obtain⟨u0,uv⟩:=u;simp only at p1 p2 hus hz3 hD;subst p1;simp only[Instr.fill,p2,hus];rw[aj (by simp;omega)];rw[<-hD];congr 1
def xR(P:Program)(t:TypeId):Option (List (Nat×Nat)):=
 match P.underlying t with
 |some (.struct fs)=>fs.toList.mapM fun f=>(P.info? f.type).map fun i=>(f.offset,i.size)
 |some (.array n e)=>if n<=64 then(P.info? e).map fun i=>(List.range n).map fun j=>(j*i.size,i.size) else none
 |_=>none
def YE{P:Program}{w:World}{fs:Array Field}{l:List (Nat×Nat)}(h:(fs.toList.mapM fun f=>(P.info? f.type).map fun i=>(f.offset,i.size))=some l):
  (fs.mapM fun f=>do pure (f.offset,<-sizeOf f.type):Sem (Array (Nat×Nat))).run P w=.ok l.toArray w:=by
 have h1:l=fs.toList.map fun f=>(f.offset,P.cellsOf f.type):=by
  have:∀(fs:List Field) (l:List (Nat×Nat)),(fs.mapM fun f=>(P.info? f.type).map fun i=>(f.offset,i.size))=some l->l=fs.map fun f=>(f.offset,P.cellsOf f.type):=by
   intro fs
   induction fs with
   |nil=>intro l h;simp at h;simp[h]
   |cons f fs ih=>
    intro l h;simp only[oz,oH]at h
    cases hi:P.info? f.type with
    |none=>rw[hi]at h;simp at h
    |some i=>
     rw[hi]at h;simp only[dM,ez]at h
     cases hr:(fs.mapM fun f=>(P.info? f.type).map fun i=>(f.offset,i.size)) with
     |none=>rw[hr]at h;simp at h
     |some r=>
      rw[hr]at h;simp at h;subst h;simp[Program.cellsOf,hi,ih r hr]
  exact this _ _ h
 have h2:∀f,f∈fs.toList->∃i,P.info? f.type=some i:=by
  intro f hf
  cases hi:P.info? f.type with
  |some i=>exact⟨i,rfl⟩
  |none=>
   exfalso
   have:∀(fs:List Field) (l:List (Nat×Nat)),f∈fs->(fs.mapM fun f=>(P.info? f.type).map fun i=>(f.offset,i.size))=some l->False:=by
    intro fs
    induction fs with
    |nil=>intro l hm;simp at hm
    |cons g fs ih=>
     intro l hm h;simp only[oz,oH]at h;rcases cX.1 hm with rfl|hm
     .rw[hi]at h;simp at h
     .cases hg:P.info? g.type with
      |none=>rw[hg]at h;simp at h
      |some i=>
       rw[hg]at h;simp only[dM,ez]at h
       cases hr:(fs.mapM fun f=>(P.info? f.type).map fun i=>(f.offset,i.size)) with
       |none=>rw[hr]at h;simp at h
       |some r=>exact ih r hm hr
   exact this _ _ hf h
 rw[qi4 (g:=fun f=>(f.offset,P.cellsOf f.type)) (fun f hf=>by
  obtain⟨i,hi⟩:=h2 f hf;simp only[Sem.run_bind,lO hi,Result.andThen,Sem.run_pure];simp[Program.cellsOf,hi])]
 rw[h1];congr 1;apply x9.1;simp
def qju{E:En}{S:St}{P:Program}{w:World}{t:TypeId}{i:TypeInfo}{zv:Value}{z r:V}{ps:List (Nat×Nat×Nat×V)}{us:Array (Nat×Value)}{l:List (Nat×Nat)}(hs:SR E S w)(hi:P.info? t=some i)(hz:i.zero=some zv)
  (hl:xR P t=some l) (KH:VR E z zv) (hzs:z.isAgg=true) (hlen:ps.length=us.size)
  (hp:∀(j:Nat) (p:Nat×Nat×Nat×V) (u:Nat×Value),ps[j]?=some p->us[j]?=some u->p.1=u.1/\l[p.1]?=some (p.2.1,p.2.2.1)/\VR E p.2.2.2 u.2)
  (hne:∀p,p∈ps->¬(p.2.1=0/\p.2.2.1=z.size)) (h:bj z (ps.map fun p=>p.2)=some r):
  cu P E S w (Instr.build t us) r S:=by
 obtain⟨C,rfl⟩:∃C,zv=.agg C:=by
  cases z<;>simp[V.isAgg]at hzs;cases KH;exact⟨_,rfl⟩
 unfold xR at hl;split at hl<;>try cases hl
 case h_2 n e hu=>
  split at hl<;>try cases hl
  cases hie:P.info? e with
  |none=>rw[hie]at hl;cases hl
  |some ie=>
   rw[hie]at hl;simp only[dM,Option.some.injEq]at hl
   obtain ⟨D,hD,hr⟩:=JG (place:=fun i=>some (i * ie.size,ie.size)) ps us.toList z r C (by simpa using hlen) (fun j p u h1 h2=>by
    obtain⟨a,b,c⟩:=hp j p u h1 (by simpa using h2);refine⟨a,?_,c⟩;rw[<-hl,dS,dL]at b;obtain⟨q,hq,hqe⟩:=b;rw[aT]at hq;obtain⟨_,hq⟩:=hq;rw[List.getElem_range]at hq;subst hq;simpa using hqe) hzs KH h hne
   refine cu.pure hs ?_ hr;simp only[Instr.build,Sem.run_bind,qk hi hz,Result.andThen,dz hu,lO hie];have hC:(Value.agg C).cells=C:=rfl;rw[hC,hD];simp
 rename_i fs hu;obtain⟨D,hD,hr⟩:=JG (place:=fun i=>l[i]?) ps us.toList z r C (by simpa using hlen) (fun j p u h1 h2=>hp j p u h1 (by simpa using h2)) hzs KH h hne;refine cu.pure hs ?_ hr;simp only[Instr.build,Sem.run_bind,qk hi hz,Result.andThen,dz hu,YE hl];have e:(fun(x:Nat)=>l.toArray[x]?)=fun(x:Nat)=>l[x]?:=by funext x;simp
 have hC:(Value.agg C).cells=C:=rfl;rw[e,hC,hD];simp
def qjQ{E:En}{S:St}{P:Program}{w:World}{t:TypeId}{i:TypeInfo}{zv:Value}{n j:Nat}{x:V}{u:Value}{l:List (Nat×Nat)}(hs:SR E S w)(hi:P.info? t=some i)(hz:i.zero=some zv)(hzn:zv.cells.size=n)
  (hl:xR P t=some l) (hj:l[j]?=some (0,n)) (hx:VR E x u) (hn:x.size=n) (hf:(x.cells.all V.flat)=true):cu P E S w (Instr.build t #[(j,u)]) (.agg x.cells) S:=by
 obtain⟨c1,c2⟩:=hx.cells (nE hf);have hus:u.cells.size=n:=by rw[<-c1];exact hn
 have hov:u.cells.zipIdx.foldl (fun cs (q:Value×Nat)=>cs.setIfInBounds (0+q.2) q.1) zv.cells=u.cells:=by
  rw[<-Ef,Array.toList_zipIdx,FT];apply x0;intro k;have hlen:u.cells.toList.length=zv.cells.size:=by rw[pB,hus,hzn]
  rw[xu _ _ _ _ oM];split
  .simp
  .rename_i hk;rw[x8 oM,x8 (by rw[hus,<-hzn,<-hlen];omega)]
 have BP:∀place:Nat->Option (Nat×Nat),place j=some (0,n)->Instr.fill place zv.cells [(j,u)]=some u.cells:=by
  intro place hp;simp only[Instr.fill,hp];rw[aj (by simp;omega)];exact congrArg some hov
 have cB:VR E (.agg x.cells) (.agg u.cells):=.agg c1 c2;unfold xR at hl;split at hl<;>try cases hl
 .rename_i fs hu;refine cu.pure hs ?_ cB;simp only[Instr.build,Sem.run_bind,qk hi hz,Result.andThen,dz hu,YE hl];rw[BP _ (by simpa using hj)];simp
 .rename_i m e hu;split at hl<;>try cases hl
  cases hie:P.info? e with
  |none=>rw[hie]at hl;cases hl
  |some ie=>
   rw[hie]at hl;simp only[dM,Option.some.injEq]at hl
   have hpj:(some (j*ie.size,ie.size):Option (Nat×Nat))=some (0,n):=by
    rw[<-hl,dS,dL]at hj;obtain⟨q,hq,hqe⟩:=hj;rw[aT]at hq;obtain⟨_,hq⟩:=hq;rw[List.getElem_range]at hq;subst hq;simpa using hqe
   refine cu.pure hs ?_ cB;simp only[Instr.build,Sem.run_bind,qk hi hz,Result.andThen,dz hu,lO hie];rw[BP (fun i=>some (i*ie.size,ie.size)) hpj];simp
def V2:∀(us vs:List Value) (C:Array Value) (o:Nat),over (over C o us) (o+us.length) vs=over C o (us++vs)
 |[],vs,C,o=>by simp[over]
 |u::us,vs,C,o=>by
  simp only[over,cP,eE];rw[<-V2 us vs,show o+(us.length+1)=o+1+us.length by omega]
def Tn{sz:Nat}:∀(us:List (Nat×Value)) (k:Nat) (C:Array Value),(∀(i:Nat) (u:Nat×Value),us[i]?=some u->u.1=k+i/\u.2.cells.size=sz)->(k+us.length)*sz<=C.size->
  Instr.fill (fun i=>some (i*sz,sz)) C us=some (over C (k*sz) (us.flatMap fun u=>u.2.cells.toList))
 |[],k,C,_,_=>rfl
 |u::us,k,C,h,hs=>by
  obtain⟨u0,uv⟩:=u;obtain⟨h1,h2⟩:=h 0 _ rfl;simp only[rJ]at h1 h2;subst h1;have hm:(u0+(us.length+1))*sz=u0*sz+sz+us.length*sz:=by rw[gk,gk,Nat.one_mul];omega
  rw[eE,hm]at hs
  have hz3:uv.cells.zipIdx.foldl (fun cs (x:Value×Nat)=>cs.setIfInBounds (u0*sz+x.2) x.1) C=over C (u0*sz) uv.cells.toList:=by
   rw[<-Ef,Array.toList_zipIdx,FT];rfl
  simp only[Instr.fill,h2];rw[aj (by simp;omega)];have hz4:(uv.cells.zipIdx.foldl (fun(cs:Array Value) (x:Value×Nat)=>match x with|(c,j)=>cs.setIfInBounds (u0*sz+j) c) C)=over C (u0*sz) uv.cells.toList:=hz3
  rw[hz4,Tn us (u0+1) _ (fun i u hu=>by
   obtain⟨a,b⟩:=h (i+1) u (by simpa using hu);exact⟨by omega,b⟩) (by rw[zB,gk,gk,Nat.one_mul];omega)]
  simp only[iO];rw[<-V2,pB,h2,show(u0+1)*sz=u0*sz+sz by rw[gk];omega]
def qhz{C:Array Value}{us:List Value}(h:us.length=C.size):over C 0 us=us.toArray:=by
 apply x0;intro i;rw[xu _ _ _ _ oM];by_cases hi:i<us.length
 .rw[ai ⟨by omega,by omega⟩];simp
 .rw[aj oM,x8 oM,x8 (by simp;omega)]
structure QO(P:Program)(t:TypeId)(sz:Nat):Prop where
 h:∃e i z,P.underlying t=some (.slice e)/\P.info? e=some i/\i.size=sz/\i.zero=some z
def MP(P:Program)(t:TypeId):Option Nat:=
 match P.underlying t with
 |some (.slice e)=>match P.info? e with
  |some i=>if i.zero.isSome=true then some i.size else none
  |none=>none
 |_=>none
def qj4{P:Program}{t:TypeId}{sz:Nat}(h:MP P t=some sz):QO P t sz:=by
 unfold MP at h;split at h<;>try cases h
 rename_i e h1;split at h<;>try cases h
 rename_i i h2;split at h<;>try cases h
 rename_i h3;obtain⟨z,hz⟩:=AQ.1 h3;exact⟨e,i,z,h1,h2,rfl,hz⟩
def TA{E:En}{sz:Nat}:∀(xs:List V) (us:List Value),xs.length=us.length->(∀(i:Nat) (x:V) (u:Value),xs[i]?=some x->us[i]?=some u->VR E x u)->fits sz xs=true->
  VR E (.agg (fV xs)) (.agg (us.flatMap fun u=>u.cells.toList).toArray)/\(∀u,u∈us->u.cells.size=sz)
 |[],us,hl,_,_=>by
  have:us=[]:=EG.1 hl.symm;subst this;exact⟨.agg rfl fun i v u h _=>by simp[fV]at h,by simp⟩
 |x::xs,us,hl,h,hf=>by
  cases us with
  |nil=>simp at hl
  |cons u us=>
   have hxu:=h 0 x u rfl rfl;simp only[fits,vG,bZ,beq_iff_eq]at hf;obtain⟨⟨f1,f2⟩,f3⟩:=hf;obtain⟨i1,i2⟩:=TA xs us (by simpa using hl) (fun i y v hy hv=>h (i+1) y v (by simpa using hy) (by simpa using hv)) f3;obtain⟨c1,c2⟩:=hxu.cells (nE f2);obtain⟨g1,g2⟩:=oJ i1;have hus:u.cells.size=sz:=by rw[<-c1];exact f1
   refine⟨?_,fun v hv=>?_⟩
   .refine .agg (by simp only[fV,iO,cJ,AL,pB]at *;omega) fun i v d hv hd=>?_
    simp only[fV,iO]at hv;simp only[iO,AE]at hd;by_cases hi:i<x.cells.length
    .rw[b8 hi]at hv;rw[b8 (by simp;omega)]at hd;exact c2 i v d hv (by simpa using hd)
    .rw[bK oM]at hv;rw[bK (by simp;omega)]at hd;obtain⟨e,he,hr⟩:=g2 _ v hv;simp only[AE]at he;rw[pB,<-c1]at hd;rw[hd]at he;cases he;exact hr
   .rcases cX.1 hv with rfl|hv
    .exact hus
    .exact i2 v hv
def qjt{E:En}{S:St}{P:Program}{w:World}{t:TypeId}{sz:Nat}{xs:List V}{us:Array (Nat×Value)}(hs:SR E S w)(ht:QO P t sz)(hl:xs.length=us.size)
  (h:∀(i:Nat) (x:V) (u:Nat×Value),xs[i]?=some x->us[i]?=some u->u.1=i/\VR E x u.2) (hf:fits sz xs=true) (hroom:xs.length*sz<=2^24):
  cu P E S w (Instr.buildSlice t xs.length us) (.sl true xs) S:=by
 obtain⟨e,i,z,t1,t2,rfl,t3⟩:=ht.h
 obtain ⟨f1,f2⟩:=TA (E:=E) xs (us.toList.map fun u=>u.2) (by simp;exact hl) (fun j x u hx hu=>by
  simp only[dS,dL]at hu;obtain⟨u',hu',rfl⟩:=hu;exact(h j x u' hx (by simpa using hu')).2) hf
 obtain⟨zero,hzero⟩:∃y,y=(if xs.length*i.size=0 then(#[]:Array Value) else z.cells):=⟨_,rfl⟩
 let C:Array Value:=(Array.range (xs.length*i.size)).map (fun k=>zero[k%zero.size]!)
 have hC:C.size=xs.length*i.size:=by simp[C]
 have BP:Instr.fill (fun k=>some (k*i.size,i.size)) C us.toList=some (us.toList.flatMap fun u=>u.2.cells.toList).toArray:=by
  rw[Tn us.toList 0 C (fun j u hu=>by
   have hj:j<xs.length:=by have:=(aT.1 hu).1;simp at this;omega
   have:=(h j xs[j] u sM (by simpa using hu)).1;exact⟨by omega,f2 _ (cE.2 ⟨u,dc hu,rfl⟩)⟩) (by rw[hC];simp;rw[hl];exact cq _),Nat.zero_mul,qhz]
  rw[hC];have g:=(oJ f1).1;rw[nG (wE hf)]at g;rw[g];simp[List.flatMap_map]
 have hD:(us.toList.flatMap fun u=>u.2.cells.toList).toArray=((us.toList.map fun u=>u.2).flatMap fun u=>u.cells.toList).toArray:=by simp[List.flatMap_map]
 rw[hD]at BP;obtain⟨s1,s2,s3⟩:=hs.lay ((us.toList.map fun u=>u.2).flatMap fun u=>u.cells.toList).toArray e;refine⟨.slice (some ⟨w.heap.size,0,none⟩) xs.length xs.length,_,_,?_,?_,s1,s3,cq _⟩
 .simp only[Instr.buildSlice,Sem.run_bind,dz t1,lO t2,Result.andThen];rw[aj oM];have Uf:Instr.fill (fun k=>some (k*i.size,i.size)) (Array.map (fun x=>zero[x%zero.size]!) (Array.range (xs.length*i.size))) us.toList=_:=BP;by_cases h0:xs.length*i.size=0
  .rw[ai h0]at hzero;subst hzero;rw[ai h0];simp only[Sem.run_bind,Sem.run_pure,Result.andThen,Uf,xI]
  .rw[aj h0]at hzero;subst hzero;rw[aj h0];simp only[Sem.run_bind,Sem.run_pure,Result.andThen,qk t2 t3,Uf,xI]
 .obtain⟨g1,g2⟩:=oJ f1;have hlen:=nG (wE hf);refine .sl (sz:=i.size) bL (fun _=>rfl) (wE hf) (fun k j hk hj=>?_) (fun k v j c' c hv hc hi=>?_)
  .simp only[En.lay,if_true,iQ]
   have:k*i.size+j<(fV xs).length:=by
    rw[hlen];have:(k+1)*i.size<=xs.length*i.size:=oD _ hk;rw[gk]at this;omega
   obtain⟨d,hd,_⟩:=g2 (k*i.size+j) _ (bI this);rw[hd];rfl
  .simp only[En.lay,if_true,iQ]at hi
   have hj:j<i.size:=by
    have:=(aT.1 hc).1;rw[show v.cells.length=i.size from wE hf v (dc hv)]at this;exact this
   have hg:=FR (wE hf) hv hj;rw[hc]at hg;obtain⟨d,hd,hr⟩:=g2 _ _ hg;rw[hd]at hi;cases hi;exact hr.mono s2
def Hl{E:En}{P:Program}{w:World}{v r:V}{cs:Array Value}{t:TypeId}{k:Option Nat}{off:Nat}(hk:jk P t=some k)(hv:VR E v (.agg cs))(hnt:v≠.top)(hr:v.part off k=some r):
  ∃u,(part t cs off).run P w=.ok u w/\VR E r u:=by
 obtain⟨c1,c2⟩:=hv.cells hnt;have hcs:(Value.agg cs).cells=cs:=rfl;rw[hcs]at c1 c2;unfold jk at hk
 have scalar:∀d,P.underlying t=some d->(∀fs,d≠.struct fs)->(∀n e,d≠.array n e)->k=none->∃u,(part t cs off).run P w=.ok u w/\VR E r u:=by
  intro d hd h1 h2 hk;subst hk;simp only[V.part]at hr;have ho:=(aT.1 hr).1
  have this:(isAgg t).run P w=.ok false w:=by
   simp only[isAgg,Sem.run_bind,dz hd,Result.andThen];cases d<;>first|rfl|exact absurd rfl (h1 _)|exact absurd rfl (h2 _ _)
  have hco:cs[off]?=some (cs[off]'oM):=by simp
  refine⟨_,?_,c2 off r _ hr hco⟩;simp only[part,Sem.run_bind,this,Result.andThen,iz,if_false,hco,Sem.run_pure]
 have agg:∀d,P.underlying t=some d->(∃fs,d=.struct fs)\/(∃n e,d=.array n e)->((P.info? t).map fun i=>some i.size)=some k->∃u,(part t cs off).run P w=.ok u w/\VR E r u:=by
  intro d hd h1 hk
  cases hi:P.info? t with
  |none=>rw[hi]at hk;cases hk
  |some i=>
   rw[hi]at hk;cases hk
   have this:(isAgg t).run P w=.ok true w:=by
    simp only[isAgg,Sem.run_bind,dz hd,Result.andThen];rcases h1 with ⟨fs,rfl⟩|⟨n,e,rfl⟩<;>rfl
   have hrun:(part t cs off).run P w=.ok (.agg (cs.extract off (off+i.size))) w:=by
    simp only[part,Sem.run_bind,this,Result.andThen,if_true,lO hi,Sem.run_pure]
   refine⟨_,hrun,?_⟩;simp only[V.part]at hr;split at hr
   .rename_i hc;obtain⟨rfl,h2,ha⟩:=hc;cases hr
    have:cs.extract 0 (0+i.size)=cs:=by
     rw[h2,V.size,c1];simp
    rw[this];exact hv
   .split at hr
    .rename_i ds _;split at hr
     .rename_i hle;cases hr;have hds:(V.agg ds).cells=ds:=rfl;rw[hds]at c1 c2;refine .agg (by simp;omega) fun j x u hx hu=>?_
      have hj:j<i.size:=by
       have:=(aT.1 hx).1;simp at this;omega
      rw[lj hj,kh]at hx;rw[Array.getElem?_extract]at hu;split at hu
      .exact c2 _ x u hx hu
      .cases hu
     .cases hr
    .cases hr
 cases hd:P.underlying t with
 |none=>rw[hd]at hk;cases hk
 |some d=>
  rw[hd]at hk;cases d<;>first
   |exact agg _ hd (.inl ⟨_,rfl⟩) hk
   |exact agg _ hd (.inr ⟨_,_,rfl⟩) hk
   |(cases hk;exact scalar _ hd (fun _=>by simp) (fun _ _=>by simp) rfl)
def JF(P:Program)(t:TypeId)(f:Nat):Option (Nat×Option Nat):=
 match P.underlying t with
 |some (.struct fs)=>match fs[f]? with
  |some x=>(jk P x.type).map fun k=>(x.offset,k)
  |none=>none
 |_=>none
def qjD{E:En}{S:St}{P:Program}{w:World}{v r:V}{u:Value}{t:TypeId}{f off:Nat}{k:Option Nat}(hs:SR E S w)(hv:VR E v u)(ha:v.isAgg=true)(hf:JF P t f=some (off,k))(hr:v.part off k=some r):
  cu P E S w (Instr.field t u f) r S:=by
 unfold JF at hf;split at hf<;>try cases hf
 rename_i fs hu;split at hf<;>try cases hf
 rename_i x hx
 cases hk:jk P x.type with
 |none=>rw[hk]at hf;cases hf
 |some k'=>
  rw[hk]at hf;cases hf
  have:∃cs,u=.agg cs:=by
   cases v<;>simp[V.isAgg]at ha;cases hv;exact⟨_,rfl⟩
  obtain⟨cs,rfl⟩:=this;obtain⟨d,hd,hr⟩:=Hl (P:=P) (w:=w) hk hv (by rintro rfl;simp[V.isAgg]at ha) hr;refine cu.pure hs ?_ hr;simp only[Instr.field,Sem.run_bind,dz hu,Result.andThen,hx,asAgg,Sem.run_pure,hd]
def qjH{E:En}{S:St}{P:Program}{w:World}{v r:V}{u:Value}{t e:TypeId}{ei:TypeInfo}{n:Nat}{ix:Int}{kd:IntKind}{k:Option Nat}(hs:SR E S w)(hv:VR E v u)(ha:v.isAgg=true)(hu:P.underlying t=some (.array n e))(he:P.info? e=some ei)(hk:jk P e=some k)
  (h0:0<=ix/\ix<n) (hr:v.part (ix.toNat*ei.size) k=some r):cu P E S w (Instr.index t u (.int kd ix)) r S:=by
 have:∃cs,u=.agg cs:=by
  cases v<;>simp[V.isAgg]at ha;cases hv;exact⟨_,rfl⟩
 obtain⟨cs,rfl⟩:=this;obtain⟨d,hd,hr⟩:=Hl (P:=P) (w:=w) hk hv (by rintro rfl;simp[V.isAgg]at ha) hr;refine cu.pure hs ?_ hr;simp only[Instr.index,asIntOf,Sem.run_bind,Sem.run_pure,dz hu,Result.andThen];rw[ai h0];simp only[Sem.run_bind,lO he,Result.andThen,hd]
def qjB{E:En}{S:St}{P:Program}{w:World}{vs:List V}{r:V}{u:Value}{k:Nat}(hs:SR E S w)(hv:VR E (.aH vs) u)(hr:vs[k]?=some r):cu P E S w (Instr.extract u k) r S:=by
 cases hv with
 |aH h g=>
  rename_i us;have hk:=(aT.1 hr).1;have hus:us[k]?=some (us[k]'oM):=by simp
  exact cu.pure hs (by simp[Instr.extract,hus]) (g k r _ hr hus)
def pZ(s:Bz)(ix:Int):Option V:=if 0<=ix then(s[ix.toNat]?).map fun b=>.int .u8 b.toNat else none
def qjG{E:En}{S:St}{P:Program}{w:World}{s:Bz}{ix:Int}{k:IntKind}{t:TypeId}{r:V}(hs:SR E S w)(ht:P.underlying t=some .string)(h:pZ s ix=some r):cu P E S w (Instr.index t (.string s) (.int k ix)) r S:=by
 unfold pZ at h;split at h<;>try cases h
 rename_i h0
 cases hb:s[ix.toNat]? with
 |none=>rw[hb]at h;cases h
 |some b=>
  rw[hb]at h;cases h;refine cu.pure hs ?_ (.int _ _);simp[Instr.index,asIntOf,Sem.run_bind,Result.andThen,dz ht,h0,hb]
def gX(S:St)(sz:Nat)(d:V)(lo hi:Option Int):Option V:=
 match d with
 |.str s=>if 0<=lo.getD 0/\lo.getD 0<=hi.getD s.size/\hi.getD s.size<=s.size then some (.str (s.extract (lo.getD 0).toNat (hi.getD s.size).toNat)) else none
 |.sl x xs=>if 0<=lo.getD 0/\lo.getD 0<=hi.getD xs.length/\hi.getD xs.length<=xs.length/\(xs.all fun v=>v.size==sz)=true then
   some (.sl (x&&decide (hi.getD xs.length=xs.length)) ((xs.take (hi.getD xs.length).toNat).drop (lo.getD 0).toNat)) else none
 |.arr l off len st=>if 0<=lo.getD 0/\lo.getD 0<=hi.getD len/\hi.getD len<=len then
   if lo.getD 0=0 then some (.arr l off (hi.getD len).toNat st) else if lo.getD 0=hi.getD len then some (.sl false []) else match S[l]? with
    |some (.arr _ s wr)=>if wr<=st/\s=sz then some (.arr l (off+(lo.getD 0).toNat) ((hi.getD len).toNat-(lo.getD 0).toNat) st) else none
    |_=>none
  else none
 |_=>none
def YB{P:Program}{w:World}{b:Bool}{len cap:Nat}{lo hi:Option Int}{k k':IntKind}(h0:0<=lo.getD 0)(h1:lo.getD 0<=hi.getD len)(h2:hi.getD len<=len)(hc:len<=cap):
  (Instr.sliceBounds b len cap (lo.map (.int k)) (hi.map (.int k')) none).run P w=.ok ((lo.getD 0).toNat,(hi.getD len).toNat,cap) w:=by
 cases lo<;>cases hi<;>simp only[AP,yl]at h0 h1 h2<;>simp only[Instr.sliceBounds,Instr.sliceBound,asIntOf,dM,Option.map_none,EN,AP,yl,Sem.run_bind,Sem.run_pure,Result.andThen,iz,if_false]
 .simp
 .rw[ai ⟨by omega,by omega⟩];simp[Result.andThen]
 .rw[ai ⟨by omega,by omega⟩];simp[Result.andThen]
 .rw[ai ⟨by omega,by omega⟩];simp only[Sem.run_bind,Sem.run_pure,Result.andThen];rw[ai ⟨by omega,by omega⟩];simp[Result.andThen]
def qjN{E:En}{S:St}{P:Program}{w:World}{s:Bz}{lo hi:Option Int}{k k':IntKind}{t:TypeId}{r:V}{sz:Nat}(hs:SR E S w)(ht:P.underlying t=some .string)(h:gX S sz (.str s) lo hi=some r):
  cu P E S w (Instr.sliceAt t (.string s) (lo.map (.int k)) (hi.map (.int k')) none) r S:=by
 simp only[gX]at h;split at h<;>try cases h
 rename_i hc;obtain⟨h0,h1,h2⟩:=hc;refine cu.pure hs ?_ (.str _);have:=YB (P:=P) (w:=w) (b:=false) (k:=k) (k':=k') h0 h1 h2 (cq s.size);simp only[Instr.sliceAt,Sem.run_bind,dz ht,Result.andThen,Instr.slice];simp[Sem.run_bind,Result.andThen,this]
def YV{E:En}{S:St}{P:Program}{w:World}{d r:V}{u:Value}{lo hi:Option Int}{k k':IntKind}{t:TypeId}{sz:Nat}(hs:SR E S w)(ht:wy P t=some sz)(hd:VR E d u)(h:gX S sz d lo hi=some r)(hn:∀s,d≠.str s):
  cu P E S w (Instr.sliceAt t u (lo.map (.int k)) (hi.map (.int k')) none) r S:=by
 unfold wy at ht;split at ht<;>try cases ht
 rename_i e hu
 cases hi':P.info? e with
 |none=>rw[hi']at ht;cases ht
 |some i=>
  rw[hi']at ht;cases ht;have run:∀(a:Option Addr) (len cap:Nat),0<=lo.getD 0->lo.getD 0<=hi.getD len->hi.getD len<=len->len<=cap->
    (Instr.sliceAt t (.slice a len cap) (lo.map (.int k)) (hi.map (.int k')) none).run P w=
     .ok (.slice (if cap=(lo.getD 0).toNat then a else a.map (·.add ((lo.getD 0).toNat*i.size))) ((hi.getD len).toNat-(lo.getD 0).toNat) (cap-(lo.getD 0).toNat)) w:=by
   intro a len cap h0 h1 h2 hc;have:=YB (P:=P) (w:=w) (b:=true) (k:=k) (k':=k') h0 h1 h2 hc;simp only[Instr.sliceAt,Sem.run_bind,dz hu,Result.andThen,Instr.slice];simp[Sem.run_bind,Result.andThen,this,lO hi',dz hu]
  have emp:∀(f:Bool) (b o cap:Nat),(f=true->cap=0)->VR E (.sl f []) (.slice (some ⟨b,o,none⟩) 0 cap):=fun f b o cap hc=>
   .sl (sz:=0) (eL _) hc (fun v hv=>by simp at hv) (fun i j hi=>by simp at hi) (fun i v j c' c hv=>by simp at hv)
  cases hd with
  |slnil x=>
   simp only[gX,kj]at h;split at h<;>try cases h
   rename_i hc;obtain⟨h0,h1,h2,_⟩:=hc;have hl:lo.getD 0=0:=by simp at h1 h2;omega
   have hh:hi.getD 0=0:=by simp at h1 h2;omega
   refine cu.pure hs (run none 0 0 h0 (by simpa using h1) (by simpa using h2) bL) ?_;simp[hl,hh];exact .slnil _
  |kL x a=>
   simp only[gX,kj]at h;split at h<;>try cases h
   rename_i hc;obtain⟨h0,h1,h2,_⟩:=hc;have hl:lo.getD 0=0:=by simp at h1 h2;omega
   have hh:hi.getD 0=0:=by simp at h1 h2;omega
   refine cu.pure hs (run (some a) 0 0 h0 (by simpa using h1) (by simpa using h2) bL) ?_;simp[hl,hh];exact .kL _ _
  |sl hcap hx hss hI hvv=>
   rename_i x xs b o cap sz';simp only[gX]at h;split at h<;>try cases h
   rename_i hc;obtain⟨h0,h1,h2,h3⟩:=hc;refine cu.pure hs (run _ _ _ h0 h1 h2 hcap) ?_;generalize hL:(lo.getD 0).toNat=L;generalize hH:(hi.getD (xs.length:Int)).toNat=H;have hLH:L<=H:=by omega
   have hHl:H<=xs.length:=by omega
   have hlen:((xs.take H).drop L).length=H-L:=by simp;omega
   have hfl:(x&&decide (hi.getD (xs.length:Int)=xs.length))=true->cap-L=H-L:=fun hf=>by
    simp only[bZ,cR]at hf;have:=hx hf.1;omega
   by_cases hz:H-L=0
   .have:(xs.take H).drop L=[]:=EG.1 (by rw[hlen];exact hz);rw[this,hz];split
    .exact emp _ _ _ _ (fun hf=>by rw[hfl hf];exact hz)
    .simp only[dM,oI];exact emp _ _ _ _ (fun hf=>by rw[hfl hf];exact hz)
   .have hsz:i.size=sz':=by
     have hm:xs[0]'oM∈xs:=cI _;simp only[d6,beq_iff_eq]at h3;rw[<-h3 _ hm];exact hss _ hm
    rw[aj oM];simp only[dM,oI];have hmem:∀v,v∈(xs.take H).drop L->v∈xs:=fun v hv=>yj (EH hv)
    have hget:∀(k:Nat) (v:V),((xs.take H).drop L)[k]?=some v->xs[L+k]?=some v:=fun k v hv=>by
     rw[kh]at hv;rw[AC]at hv;split at hv
     .exact hv
     .cases hv
    have:=VR.sl (E:=E) (x:=(x&&decide (hi.getD (xs.length:Int)=xs.length))) (xs:=(xs.take H).drop L) (b:=b) (o:=o+L*i.size) (cap:=cap-L) (sz:=sz') (by rw[hlen];omega) (fun hf=>by rw[hlen];exact hfl hf) (fun v hv=>hss v (hmem v hv))
     (fun k j hk hj=>by
      have:=hI (L+k) j (by rw[hlen]at hk;omega) hj;rw[gk]at this;rw[hsz,show o+L*sz'+k*sz'+j=o+(L*sz'+k*sz')+j by omega];exact this)
     (fun k v j c' c hv hc Uh=>hvv (L+k) v j c' c (hget k v hv) hc (by
      rw[gk];rw[hsz,show o+L*sz'+k*sz'+j=o+(L*sz'+k*sz')+j by omega]at Uh;exact Uh))
    rw[hlen]at this;exact this
  |arr hr hN hcc=>
   rename_i l off len cap st x;simp only[gX]at h;split at h<;>try cases h
   rename_i hc;obtain⟨h0,h1,h2⟩:=hc;split at h
   .rename_i hz;cases h;refine cu.pure hs (run _ _ _ h0 h1 h2 hcc) ?_;have:=VR.arr (E:=E) (l:=l) (off:=off) (len:=(hi.getD (len:Int)).toNat) (cap:=cap) (st:=st) hr hN oM;simpa[hz,oI]using this
   .rename_i hz;split at h
    .rename_i he;cases h;refine cu.pure hs (run _ _ _ h0 h1 h2 hcc) ?_;rw[<-he,Nat.sub_self];split
     .exact emp _ _ _ _ (fun hf=>by cases hf)
     .simp only[dM,oI];exact emp _ _ _ _ (fun hf=>by cases hf)
    .rename_i he;split at h<;>try cases h
     rename_i ys s wr hob;split at h<;>try cases h
     rename_i hc';obtain⟨c1,c2⟩:=hc';have hsz:=((hs.obs l _ hob).2.2 st x hr c1).2.1;refine cu.pure hs (run _ _ _ h0 h1 h2 hcc) ?_;rw[aj oM];simp only[dM,oI];have:=VR.arr (E:=E) (l:=l) (off:=off+(lo.getD 0).toNat) (len:=(hi.getD (len:Int)).toNat-(lo.getD 0).toNat) (cap:=cap-(lo.getD 0).toNat) (st:=st) hr
      (by rw[show off+(lo.getD 0).toNat+(cap-(lo.getD 0).toNat)=off+cap by omega];exact hN) oM
     rw[gk]at this;rw[<-c2,<-hsz];exact this
  |str s=>exact absurd rfl (hn s)
  |_=>simp[gX]at h
def bits(op:BinOp)(k:IntKind)(x y:Int):Option Int:=
 let a:=BitVec.ofInt k.bits x
 let b:=BitVec.ofInt k.bits y
 match op with
 |.and=>some (k.wrap (a &&& b).toNat)
 |.or=>some (k.wrap (a ||| b).toNat)
 |.xor=>some (k.wrap (a ^^^ b).toNat)
 |.andNot=>some (k.wrap (a &&& ~~~b).toNat)
 |_=>none
def wT(op:BinOp)(k:IntKind)(a b:Int):Option V:=
 match op with
 |.add=>some (.int k (k.wrap (a+b)))
 |.sub=>some (.int k (k.wrap (a-b)))
 |.mul=>some (.int k (k.wrap (a*b)))
 |.quo=>if b=0 then none else some (.int k (k.wrap (a.tdiv b)))
 |.rem=>if b=0 then none else some (.int k (a.tmod b))
 |.eql=>some (.bool (decide (a=b)))
 |.neq=>some (.bool (!decide (a=b)))
 |.lss=>some (.bool (decide (a<b)))
 |.leq=>some (.bool (decide (a<=b)))
 |.gtr=>some (.bool (decide (b<a)))
 |.geq=>some (.bool (decide (b<=a)))
 |.and|.or|.xor|.andNot=>(bits op k a b).map (.int k)
 |_=>none
def rn(x y:Bz):Bool:=Op.bytesLess x.toList y.toList
def sO(x y:Bz):Bool:=x.toList==y.toList
def nY(op:BinOp)(x y:Bz):Option V:=
 match op with
 |.add=>if((x.size+y.size:Nat):Int)<=IntKind.i64.max then some (.str (x++y)) else none
 |.eql=>some (.bool (sO x y))
 |.neq=>some (.bool (!sO x y))
 |.lss=>some (.bool (rn x y))
 |.leq=>some (.bool (rn x y||sO x y))
 |.gtr=>some (.bool (!(rn x y||sO x y)))
 |.geq=>some (.bool (!rn x y))
 |_=>none
def Hv(op:BinOp)(k:IntKind)(a b:Int):Option V:=
 match op with
 |.shl=>if b<0 then none else some (.int k (k.wrap (a*2^min b.toNat k.bits)))
 |.shr=>if b<0 then none else some (.int k (a.fdiv (2^min b.toNat k.bits)))
 |_=>none
def tL(op:BinOp)(x y:V):Option V:=
 match x,y with
 |.int k a,.int k' b=>if op=.shl\/op=.shr then Hv op k a b else if k=k' then wT op k a b else none
 |.str a,.str b=>nY op a b
 |_,_=>none
def JU{op:BinOp}{t:TypeId}{x y:Operand}{a b:Value}{P:Program}{w:World}(h1:¬(a=.nilIface/\b=.nilIface))(h2:∀c d,¬(a=.agg c/\b=.agg d)):(eqGuard op t x y a b).run P w=.ok () w:=by
  unfold eqGuard;cases op<;>first
    |rfl
    | (cases a <;> first
        |rfl
        |(cases b<;>first|rfl|exact absurd ⟨rfl,rfl⟩ h1)
        |(cases b<;>first|rfl|exact absurd ⟨rfl,rfl⟩ (h2 _ _)))
def qi2{P:Program}{w:World}{op:BinOp}{k:IntKind}{a b:Int}{r:V}{E:En}(hop:op≠.shl/\op≠.shr)(h:wT op k a b=some r)(t:TypeId):∃u,(binOp op t (.int k a) (.int k b)).run P w=.ok u w/\VR E r u:=by
  cases op<;>simp only[wT,bits,dM]at h<;>first
    |(cases h;refine⟨.int k _,?_,.int _ _⟩;simp only[binOp,ne_eq,not_true_eq_false,if_false];rfl)
    |(cases h;refine⟨.bool _,?_,.bool _⟩;simp[binOp,Op.intCmp];try rfl)
    | (split at h
       · cases h
       · rename_i hz;cases h;exact⟨_,by simp[binOp,Op.intDiv,hz],.int _ _⟩)
    |(cases h;done)
    |(exact absurd rfl hop.1)
    |(exact absurd rfl hop.2)
def qjs{E:En}{S:St}{P:Program}{w:World}{op:BinOp}{t:TypeId}{ox oy:Operand}{x y r:V}{u v:Value}(hs:SR E S w)(hx:VR E x u)(hy:VR E y v)(h:tL op x y=some r):
    cu P E S w (do eqGuard op t ox oy u v;binOp op t u v) r S:=by
  unfold tL at h;split at h
  · rename_i k a k' b;cases hx;cases hy;have hg:(eqGuard op t ox oy (.int k a) (.int k' b)).run P w=.ok () w:=JU sM sM;split at h
    · rename_i hop;unfold Hv at h;rcases hop with rfl|rfl<;>simp only at h<;>split at h<;>cases h
      · rename_i hb;exact cu.pure hs (by simp[Sem.run_bind,hg,Result.andThen,binOp,Op.shift,hb]) (.int _ _)
      · rename_i hb;exact cu.pure hs (by simp[Sem.run_bind,hg,Result.andThen,binOp,Op.shift,hb]) (.int _ _)
    · rename_i hop;split at h<;>try cases h
      rename_i hk;subst hk;obtain⟨u,hu,hr⟩:=qi2 (P:=P) (w:=w) (E:=E) ⟨fun e=>hop (.inl e),fun e=>hop (.inr e)⟩ h t;exact cu.pure hs (by simp only[Sem.run_bind,hg,Result.andThen];exact hu) hr
  · rename_i a b;cases hx;cases hy;have hg:(eqGuard op t ox oy (.string a) (.string b)).run P w=.ok () w:=JU sM sM
    have hrun:∀u,(Op.stringOp op a b).run P w=.ok u w->(do eqGuard op t ox oy (.string a) (.string b);binOp op t (.string a) (.string b):Sem Value).run P w=.ok u w:=by
      intro u hu;simp only[Sem.run_bind,hg,Result.andThen];cases op<;>exact hu
    cases op<;>simp only[nY]at h<;>first
      |(cases h;done)
      |(cases h;exact cu.pure hs (hrun _ (by simp[Op.stringOp];try rfl)) (.bool _))
      | (split at h
         · rename_i hle;cases h;exact cu.pure hs (hrun _ (by simp only[Op.stringOp];rw[aj oM];rfl)) (.str _)
         · cases h)
  · cases h
def dN(x y:V):Option Bool:=
 match x,y with
 |.bool a,.bool b=>some (a==b)
 |.bF,.bF=>some true
 |.bF,.ptr ..|.bF,.bG ..|.ptr ..,.bF|.bG ..,.bF=>some false
 |.bB,.bB=>some true
 |.bB,.fn ..|.fn ..,.bB=>some false
 |_,_=>none
def yL(P:Program)(t:TypeId)(x y:V):Bool:=
 match P.underlying t,x,y with
 |some .bool,.bool _,.bool _=>true
 |some (.pointer _),.bF,.bF|some (.pointer _),.bF,.ptr ..|some (.pointer _),.bF,.bG ..|some (.pointer _),.ptr ..,.bF|some (.pointer _),.bG ..,.bF=>true
 |some (.func ..),.bB,.bB|some (.func ..),.bB,.fn ..|some (.func ..),.fn ..,.bB=>true
 |_,_,_=>false
def qi1{E:En}{P:Program}{w:World}{t:TypeId}{x y:V}{u v:Value}{b:Bool}(n:Nat)(hx:VR E x u)(hy:VR E y v)(h:dN x y=some b)(hk:yL P t x y=true):
  (Op.equalIn (n+1) t u v).run P w=.ok b w:=by
 cases hd:P.underlying t with
 |none=>simp[yL,hd]at hk
 |some d=>
  simp only[Op.equalIn,Sem.run_bind,dz hd,Result.andThen];cases hx<;>cases hy<;>simp only[dN,reduceCtorEq]at h<;>cases h<;>cases d<;>simp[yL,hd]at hk<;>rfl
def qdc{E:En}{x y:V}{u v:Value}{b:Bool}(hx:VR E x u)(hy:VR E y v)(h:dN x y=some b):¬(u=.nilIface/\v=.nilIface)/\(∀c d,¬(u=.agg c/\v=.agg d))/\
  (∀t,binOp .eql t u v=do pure (.bool (<-Op.equal t u v)))/\(∀t,binOp .neq t u v=do pure (.bool (!(<-Op.equal t u v)))):=by
 cases hx<;>cases hy<;>simp only[dN,reduceCtorEq]at h<;>cases h<;>exact⟨by simp,by simp,fun _=>rfl,fun _=>rfl⟩
def qjz{E:En}{S:St}{P:Program}{w:World}{op:BinOp}{t:TypeId}{ox oy:Operand}{x y:V}{u v:Value}{b:Bool}(hs:SR E S w)(hx:VR E x u)(hy:VR E y v)(h:dN x y=some b)(hk:yL P t x y=true)(ho:op=.eql\/op=.neq):
  cu P E S w (do eqGuard op t ox oy u v;binOp op t u v) (.bool (if op=.eql then b else !b)) S:=by
 have h1:(Op.equal t u v).run P w=.ok b w:=qi1 9999 hx hy h hk;obtain⟨h2,h3,h4,h5⟩:=qdc hx hy h;refine cu.pure hs (d:=.bool (if op=.eql then b else !b)) ?_ (.bool _);simp only[Sem.run_bind,JU h2 h3,Result.andThen];rcases ho with rfl|rfl
 .rw[h4 t];simp[h1,Result.andThen]
 .rw[h5 t];simp[h1,Result.andThen]
def zW(op:UnOp)(x:V):Option V:=
 match op,x with
 |.neg,.int k n=>some (.int k (k.wrap (0-n)))
 |.not,.bool b=>some (.bool !b)
 |.xor,.int k n=>(bits .xor k (if k.signed then -1 else k.max) n).map (.int k)
 |_,_=>none
def qjP{E:En}{S:St}{P:Program}{w:World}{op:UnOp}{x r:V}{u:Value}(hs:SR E S w)(hx:VR E x u)(h:zW op x=some r):cu P E S w (Op.unary op u) r S:=by
 unfold zW at h;split at h<;>cases h<;>cases hx
 .exact cu.pure hs (by simp[Op.unary,Op.intArith]) (.int _ _)
 .exact cu.pure hs (by simp[Op.unary]) (.bool _)
 .exact cu.pure hs (by simp[Op.unary,Op.intBits]) (.int _ _)
def Ld(x:V):Option V:=
 match x with
 |.sl _ xs=>some (.int .i64 xs.length)
 |.arr _ _ len _=>some (.int .i64 len)
 |.str s=>some (.int .i64 s.size)
 |_=>none
mutual
def V.under(m:Nat):V->Bool
 |.ptr l _ _ _=>decide (l<m)
 |.arr l _ _ _=>decide (l<m)
 |.map l=>decide (l<m)
 |.cj l=>decide (l<m)
 |.bG v _=>V.under m v
 |.sl _ xs=>V.dj m xs
 |.fn f fs cs=>(match f with|.yield _=>false|_=>true)&&V.dj m fs&&V.dj m cs
 |.iface _ v=>V.under m v
 |.agg cs=>V.dj m cs
 |.aH cs=>V.dj m cs
 |_=>true
def V.dj(m:Nat):List V->Bool
 |[]=>true
 |v::vs=>V.under m v&&V.dj m vs
end
def uV{m:Nat}:∀{xs:List V},V.dj m xs=true->∀v,v∈xs->v.under m=true
 |[],_,v,hv=>by simp at hv
 |x::xs,h,v,hv=>by
  simp only[V.dj,bZ]at h;rcases cX.1 hv with rfl|hv
  .exact h.1
  .exact uV h.2 v hv
def NB{m:Nat}:∀{xs:List V},(∀v,v∈xs->v.under m=true)->V.dj m xs=true
 |[],_=>rfl
 |x::xs,h=>by
  simp only[V.dj,bZ];exact⟨h x sM,NB fun v hv=>h v (by simp[hv])⟩
def NC{m:Nat}{v c:V}{j:Nat}(h:v.under m=true)(hc:v.cells[j]?=some c):c.under m=true:=by
 by_cases ha:∃cs,v=.agg cs
 .obtain⟨cs,rfl⟩:=ha;simp only[V.under]at h;exact uV h c (dc hc)
 .have:v.cells=[v]:=by
   cases v<;>first|rfl|exact absurd ⟨_,rfl⟩ ha
  rw[this]at hc
  cases j with
  |zero=>simp at hc;subst hc;exact h
  |succ j=>simp at hc
def En.cut(E:En)(m:Nat):En:={ E with ρ:=fun l st=>if l<m then E.ρ l st else none }
def VR.cut{E:En}{m:Nat}{v:V}{u:Value}(r:VR E v u):v.under m=true->VR (E.cut m) v u:=by
 induction r with
 |top u=>intro _;exact .top u
 |bool b=>intro _;exact .bool b
 |int k n=>intro _;exact .int k n
 |str s=>intro _;exact .str s
 |bF=>intro _;exact .bF
 |ptr i off hr=>intro h;simp[V.under]at h;exact .ptr i off (by simp[En.cut,h,hr])
 |cL g off=>intro _;exact .cL g off
 |bG off hI _ ih=>intro h;simp only[V.under]at h;exact .bG off hI fun j c' c hc hi=>ih j c' c hc hi (NC h hc)
 |slnil x=>intro _;exact .slnil x
 |kL x a=>intro _;exact .kL x a
 |sl hc hx hs hI _ ih=>intro h;simp only[V.under]at h;exact .sl hc hx hs hI fun i v j c' c hv hcc hi=>ih i v j c' c hv hcc hi (NC (uV h v (dc hv)) hcc)
 |arr hr hN hc=>intro h;simp[V.under]at h;exact .arr (by simp[En.cut,h,hr]) hN hc
 |cG=>intro _;exact .cG
 |map hr=>intro h;simp[V.under]at h;exact .map (by simp[En.cut,h,hr])
 |fn h1 h2 _ _ ih1 ih2=>
  intro h;simp only[V.under,bZ]at h;exact .fn h1 h2 (fun i v u hv hu=>ih1 i v u hv hu (uV h.1.2 v (dc hv))) (fun i v u hv hu=>ih2 i v u hv hu (uV h.2 v (dc hv)))
 |bB=>intro _;exact .bB
 |iface t _ ih=>intro h;simp only[V.under]at h;exact .iface t (ih h)
 |dr=>intro _;exact .dr
 |cj hr=>intro hb;simp only[V.under,cR]at hb;exact .cj (by simp[En.cut,hb,hr])
 |agg hl _ ih=>intro h;simp only[V.under]at h;exact .agg hl fun i v u hv hu=>ih i v u hv hu (uV h v (dc hv))
 |aH hl _ ih=>intro h;simp only[V.under]at h;exact .aH hl fun i v u hv hu=>ih i v u hv hu (uV h v (dc hv))
def Ob.under(m:Nat):Ob->Bool
 |.arr xs _ _=>V.dj m xs
 |.map es _ _=>es.all fun p=>p.1.under m&&p.2.under m
 |.iter lm _ _ _=>decide (lm<m)
 |.dead=>true
 |.loop i=>i.e.all fun p=>p.2.under m
def SR.cut{E:En}{S:St}{w:World}(h:SR E S w){m:Nat}(hb:∀o,o∈S.take m->o.under m=true)(hm:m<=S.length):SR (E.cut m) (S.take m) w/\(∀n,n<=m->Ext n E S w (E.cut m) (S.take m) w):=by
 have hlen:(S.take m).length=m:=by simp;omega
 have hlv:∀l,eY (S.take m) l->eY S l/\l<m:=fun l hl=>by
  have:=zi hl;rw[hlen]at this;obtain⟨o,ho,hd⟩:=hl;exact⟨⟨o,by rw[lj this]at ho;exact ho,hd⟩,this⟩
 have hρ:∀l st x,(E.cut m).ρ l st=some x->l<m/\E.ρ l st=some x:=fun l st x hx=>by
  simp only[En.cut]at hx;split at hx
  .exact⟨‹_›,hx⟩
  .cases hx
 have hown:∀b,own (E.cut m) (S.take m) b->own E S b:=fun b ⟨l,st,x,hl,hx,he⟩=>⟨l,st,x,(hlv l hl).1,(hρ l st x hx).2,he⟩
 have hold:∀{w':World} {x:kg} {xs:List V} {n:Nat},V.dj m xs=true->vC E w' x xs n->vC (E.cut m) w' x xs n:=by
  intro w' x xs n hbl hh;obtain⟨C,t,h1,h2,h3,h4⟩:=hh;refine⟨C,t,h1,h2,h3,fun i v hv hi j c' hc=>?_⟩;obtain⟨c,hc1,hc2⟩:=h4 i v hv hi j c' hc;exact⟨c,hc1,hc2.cut (NC (uV hbl v (dc hv)) hc)⟩
 refine ⟨⟨⟨h.gl.1,h.gl.2⟩,h.I,?_,?_,?_,?_,?_⟩,fun n hn=>⟨cq _,fun _ _ _ hc=>hc,fun l st x hl hx=>by simp only[En.cut];rw[ai oM];exact hx,fun l hl hx st=>by
   simp only[En.cut];split
   .exact hx st
   .rfl,fun b hb=>.inl (hown b hb),fun b o c hc=>.inl hc,fun _ _ _=>rfl,rfl⟩⟩
 .intro l o ho;have hlt:l<m:=by have:=(aT.1 ho).1;rw[hlen]at this;exact this
  have iK:=hb o (dc ho);rw[lj hlt]at ho;have:=h.obs l o ho
  cases o with
  |arr xs sz wr=>
   obtain⟨h0,h1,h2⟩:=this;refine⟨h0,h1,fun st x hx hwr=>?_⟩;obtain⟨a,b,c⟩:=h2 st x (hρ l st x hx).2 hwr;exact⟨a,b,hold iK c⟩
  |iter lm since seen last=>
   obtain⟨x,y,h1,h2,h3⟩:=this;simp only[Ob.under,cR]at iK;exact⟨x,y,by simp[En.cut,hlt,h1],by simp[En.cut,iK,h2],h3⟩
  |map es bs ck=>
   obtain⟨x,entries,h1,h2,h3,h5,h4⟩:=this;refine⟨x,entries,by simp[En.cut,hlt,h1],h2,h3,h5,fun i k v e hk he=>?_⟩;obtain⟨a,b⟩:=h4 i k v e hk he;simp only[Ob.under,d6,bZ]at iK;have:=iK (k,v) (dc hk);exact⟨a.cut this.1,b.cut this.2⟩
  |dead=>trivial
  |loop i=>
   obtain⟨x,r,h1,h2,h3,h4,h5,h6,h7,h8,h9⟩:=this;refine⟨x,r,by simp[En.cut,hlt,h1],h2,h3,h4,h5,h6,h7,h8,fun t v hv=>?_⟩;obtain⟨u,hu,hr⟩:=h9 t v hv;simp only[Ob.under,d6]at iK;exact⟨u,hu,hr.cut (iK (t,v) (af.get_mem hv))⟩
 .intro l st x hx;rw[hlen];exact(hρ l st x hx).1
 .intro b o hb';exact h.apart b o (hown b hb')
 .intro b hb';exact h.lt b (hown b hb')
 .intro l l' st st' x x' hl hl' hx hx' he;exact h.inj l l' st st' x x' (hlv l hl).1 (hlv l' hl').1 (hρ l st x hx).2 (hρ l' st' x' hx').2 he
def LX{E E':En}{S:St}{l b:Nat}(hρ:E'.ρ=E.ρ)(h:own E' (S.set l .dead) b):own E S b/\∀st x,eY S l->E.ρ l st=some x->(∀l' st' x',eY S l'->E.ρ l' st'=some x'->x'.b=x.b->l'=l)->x.b≠b:=by
 obtain⟨l',st,x,hl,hx,rfl⟩:=h;rw[hρ]at hx
 have hne:l'≠l:=by
  rintro rfl;obtain⟨o,ho,hd⟩:=hl;rcases pJ l' S.length with hlt|hge
  .rw[bJ hlt]at ho;cases ho;exact hd rfl
  .rw[mb (by simp;omega)]at ho;cases ho
 have hlv:eY S l':=by
  obtain⟨o,ho,hd⟩:=hl;rw[bC (Ne.symm hne)]at ho;exact⟨o,ho,hd⟩
 exact⟨⟨l',st,x,hlv,hx,rfl⟩,fun st' x' _ hx' hinj e=>hne (hinj l' st x hlv hx e.symm)⟩
def SR.freeze{E:En}{S:St}{w:World}(h:SR E S w){l off len st sz wr:Nat}{xs:List V}{u:Value}(ho:S[l]?=some (.arr xs sz wr))(hwr:wr<=st)(hv:VR E (.arr l off len st) u)(hle:off+len<=st):
  ∃E',SR E' (S.set l .dead) w/\(∀n,Ext n E S w E' (S.set l .dead) w)/\E.le E'/\VR E' (.sl false ((xs.drop off).take len)) u:=by
 cases hv with
 |arr hr hN hc=>
  rename_i cap x;obtain⟨h0,h1,h2⟩:=h.obs l _ ho;obtain⟨g1,g2,C,t,g3,g4,g5,g6⟩:=h2 st x hr hwr;have hlive:eY S l:=⟨_,ho,by simp⟩;have iK:own E S x.b:=⟨l,st,x,hlive,hr,rfl⟩
  let E':En:={ E with I:=fun b o=>if b=x.b/\off*x.sz<=o/\o<(off+len)*x.sz then C[o]? else E.I b o }
  have hle':E.le E':=⟨fun b o c hc=>by
   simp only[E'];split
   .rename_i hk;obtain⟨rfl,_⟩:=hk;rw[h.apart x.b o iK]at hc;cases hc
   .exact hc,fun _ _ _ h=>h⟩
  have hρ:E'.ρ=E.ρ:=rfl;have hinj:∀l' st' x',eY S l'->E.ρ l' st'=some x'->x'.b=x.b->l'=l:=fun l' st' x' hl' hx' he=>h.inj l' l st' st x' x hl' hlive hx' hr he
  refine⟨E',⟨h.gl.old hle'.1 (fun _ _ _ _ _ _=>rfl),?_,?_,?_,?_,?_,?_⟩,fun n=>⟨cq _,hle'.1,fun l st x _ hx=>hx,fun _ _ hx=>hx,fun b hb=>.inl (LX hρ hb).1,?_,fun _ _ _=>rfl,rfl⟩,hle',?_⟩
  .intro b o c hc;simp only[E']at hc;split at hc
   .rename_i hk;obtain⟨rfl,_⟩:=hk;rw[Be g3];exact hc
   .exact h.I b o c hc
  .intro l' o' hl';by_cases hk:l'=l
   .subst hk;rw[bJ (zi hlive)]at hl';cases hl';trivial
   .rw[bC (Ne.symm hk)]at hl';exact(h.obs l' o' hl').mono hle' (fun _ _ hx=>hx) (fun _ _ _=>rfl)
  .intro l' st' x' hx';simpa using h.dom l' st' x' hx'
  .intro b o hb;obtain⟨hb1,hb2⟩:=LX hρ hb;have hne:=hb2 st x hlive hr hinj;simp only[E'];rw[aj (fun hk=>hne hk.1.symm)];exact h.apart b o hb1
  .intro b hb;exact h.lt b (LX hρ hb).1
  .intro l1 l2 st1 st2 x1 x2 hl1 hl2 hx1 hx2 he;have key:∀l',eY (S.set l .dead) l'->eY S l':=fun l' hl'=>si hl' hlive
   exact h.inj l1 l2 st1 st2 x1 x2 (key l1 hl1) (key l2 hl2) hx1 hx2 he
  .intro b o c hc;simp only[E']at hc;split at hc
   .rename_i hk;obtain⟨rfl,_⟩:=hk;exact .inr (.inl iK)
   .exact .inl hc
  .have hlen:((xs.drop off).take len).length=len:=by simp;omega
   have hget:∀(i:Nat) (v:V),((xs.drop off).take len)[i]?=some v->xs[off+i]?=some v/\i<len:=fun i v hv=>by
    have hi:=(aT.1 hv).1;rw[hlen]at hi;rw[lj hi,kh]at hv;exact⟨hv,hi⟩
   have hmem:∀v,v∈(xs.drop off).take len->v.cells.length=x.sz:=fun v hv=>by rw[g2];exact h1 v (EH (yj hv))
   have hrow:∀i j,i<len->j<x.sz->off*x.sz<=off*x.sz+i*x.sz+j/\off*x.sz+i*x.sz+j<(off+len)*x.sz:=fun i j hi hj=>by
    have:(i+1)*x.sz<=len*x.sz:=oD _ hi;rw[gk]at this;rw[gk];omega
   have:=VR.sl (E:=E') (x:=false) (xs:=(xs.drop off).take len) (b:=x.b) (o:=off*x.sz) (cap:=cap) (sz:=x.sz) (by rw[hlen];exact hc) (fun h=>by cases h) hmem
    (fun i j hi hj=>by
     rw[hlen]at hi;simp only[E'];rw[ai ⟨trivial,hrow i j hi hj⟩];have hx:xs[off+i]?=some (xs[off+i]'oM):=by simp
     have hcl:(xs[off+i]'oM).cells.length=x.sz:=by rw[g2];exact h1 _ (cI _)
     obtain⟨c,hc1,_⟩:=g6 (off+i) _ hx oM j (xs[off+i]'oM).cells[j] sM;rw[show off*x.sz+i*x.sz+j=(off+i)*x.sz+j by rw[gk],hc1];rfl)
    (fun i v j c' c hv hcc hi=>by
     obtain⟨hv',hi'⟩:=hget i v hv;have hj:j<x.sz:=by rw[<-hmem v (dc hv)];exact(aT.1 hcc).1
     obtain⟨d,hd1,hd2⟩:=g6 (off+i) v hv' oM j c' hcc;simp only[E']at hi;rw[ai ⟨trivial,hrow i j hi' hj⟩,show off*x.sz+i*x.sz+j=(off+i)*x.sz+j by rw[gk],hd1]at hi;cases hi;exact hd2.mono hle')
   rw[hlen]at this;exact this
end Go.Proofs.YtbifpocccfkhhaaGreatDoor
