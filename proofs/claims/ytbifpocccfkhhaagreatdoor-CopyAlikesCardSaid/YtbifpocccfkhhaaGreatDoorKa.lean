/- A part of it. -/
import Derived.TacticsIn
import Derived.RangeFuncIn
import Derived.MapFrom
import Derived.Laws.MakeOwn
import Derived.Laws.BytesString
import Derived.Maps.RangeRun
set_option linter.all false
namespace Go.Proofs.YtbifpocccfkhhaaGreatDoor
open Go
theorem qtB:type_of% @List.getElem?_eq_some_iff:=@List.getElem?_eq_some_iff
theorem qtC:type_of% @List.getElem?_append_right:=@List.getElem?_append_right
theorem qtD:type_of% @List.getElem?_append_left:=@List.getElem?_append_left
theorem qtE:type_of% @List.getElem?_set_self:=@List.getElem?_set_self
theorem qtF:type_of% @List.getElem?_eq_getElem:=@List.getElem?_eq_getElem
theorem qtG:type_of% @List.getElem?_set_ne:=@List.getElem?_set_ne
theorem qtH:type_of% @Nat.le_refl:=@Nat.le_refl
theorem qtJ:type_of% @Bool.and_eq_true:=@Bool.and_eq_true
theorem qtK:type_of% @Option.map_eq_some_iff:=@Option.map_eq_some_iff
theorem qtM:type_of% @List.getElem_mem:=@List.getElem_mem
theorem qtN:type_of% @List.length_map:=@List.length_map
theorem qtO:type_of% @List.cons_append:=@List.cons_append
theorem qtP:type_of% @List.mem_of_getElem?:=@List.mem_of_getElem?
theorem qtQ:type_of% @List.take_add_one:=@List.take_add_one
theorem qtR:type_of% @Bool.and_left_comm:=@Bool.and_left_comm
theorem qtS:type_of% @Array.getElem?_eq_some_iff:=@Array.getElem?_eq_some_iff
theorem qtT:type_of% @Option.bind_some:=@Option.bind_some
theorem qtU:type_of% @Option.map_some:=@Option.map_some
theorem qtV:type_of% @List.getElem?_map:=@List.getElem?_map
theorem qtW:type_of% @List.map_cons:=@List.map_cons
theorem qtX:type_of% @List.map_append:=@List.map_append
theorem qtY:type_of% @List.all_eq_true:=@List.all_eq_true
theorem qtZ:type_of% @List.length_append:=@List.length_append
theorem qt0:type_of% @Bool.and_assoc:=@Bool.and_assoc
theorem qt1:type_of% @List.append_assoc:=@List.append_assoc
theorem qt2:type_of% @Bool.and_comm:=@Bool.and_comm
theorem qt3:type_of% @List.mem_map:=@List.mem_map
theorem qt4:type_of% @List.nil_append:=@List.nil_append
theorem qt5:type_of% @Array.getElem?_setIfInBounds_ne:=@Array.getElem?_setIfInBounds_ne
theorem qt6:type_of% @List.eq_nil_of_length_eq_zero:=@List.eq_nil_of_length_eq_zero
theorem qt7:type_of% @List.take_length:=@List.take_length
theorem qt9:type_of% @List.getElem?_take_of_lt:=@List.getElem?_take_of_lt
theorem qua:type_of% @Bool.false_eq_true:=@Bool.false_eq_true
theorem qub:type_of% @List.getElem?_of_mem:=@List.getElem?_of_mem
theorem quc:type_of% @List.mem_cons:=@List.mem_cons
theorem qud:type_of% @List.take_of_length_le:=@List.take_of_length_le
theorem que:type_of% @List.length_cons:=@List.length_cons
theorem quf:type_of% @Decidable.not_and_iff_or_not:=@Decidable.not_and_iff_or_not
theorem qug:type_of% @Option.toList_some:=@Option.toList_some
theorem quh:type_of% @List.mem_append:=@List.mem_append
theorem qui:type_of% @Bool.eq_iff_iff:=@Bool.eq_iff_iff
theorem quj:type_of% @Nat.zero_le:=@Nat.zero_le
theorem quk:type_of% @Nat.lt_of_lt_of_le:=@Nat.lt_of_lt_of_le
theorem qul:type_of% @List.take_append_drop:=@List.take_append_drop
theorem qun:type_of% @List.getElem?_drop:=@List.getElem?_drop
theorem qup:type_of% @List.mem_map_of_mem:=@List.mem_map_of_mem
theorem quq:type_of% @Nat.add_mul:=@Nat.add_mul
theorem qur:type_of% @List.getElem?_eq_none:=@List.getElem?_eq_none
theorem qus:type_of% @List.sizeOf_lt_of_mem:=@List.sizeOf_lt_of_mem
theorem qut:type_of% @Nat.mul_le_mul_right:=@Nat.mul_le_mul_right
theorem quu:type_of% @Nat.add_assoc:=@Nat.add_assoc
theorem quv:type_of% @Option.bind_eq_some_iff:=@Option.bind_eq_some_iff
theorem quw:type_of% @Option.bind_eq_bind:=@Option.bind_eq_bind
theorem quy:type_of% @Array.getElem?_append_left:=@Array.getElem?_append_left
theorem quz:type_of% @List.flatMap_cons:=@List.flatMap_cons
theorem quA:type_of% @Array.getElem?_push:=@Array.getElem?_push
theorem quC:type_of% @List.map_congr_left:=@List.map_congr_left
theorem quE:type_of% @List.length_take:=@List.length_take
theorem quF:type_of% @Nat.le_trans:=@Nat.le_trans
theorem quG:type_of% @List.map_nil:=@List.map_nil
theorem quH:type_of% @List.mem_singleton:=@List.mem_singleton
theorem quI:type_of% @List.getElem_of_mem:=@List.getElem_of_mem
theorem quJ:type_of% @Nat.zero_add:=@Nat.zero_add
theorem quK:type_of% @Array.length_toList:=@Array.length_toList
theorem quL:type_of% @List.getElem?_cons_zero:=@List.getElem?_cons_zero
theorem quM:type_of% @List.getElem?_cons_succ:=@List.getElem?_cons_succ
theorem quN:type_of% @List.mapM_cons:=@List.mapM_cons
theorem quO:type_of% @List.not_mem_nil:=@List.not_mem_nil
theorem quP:type_of% @Array.getElem?_modify:=@Array.getElem?_modify
theorem quQ:type_of% @List.ext_getElem?:=@List.ext_getElem?
theorem quT:type_of% @Array.getElem?_append_right:=@Array.getElem?_append_right
theorem quU:type_of% @Array.getElem?_map:=@Array.getElem?_map
theorem quV:type_of% @List.mem_filter:=@List.mem_filter
theorem quW:type_of% @List.append_nil:=@List.append_nil
theorem quX:type_of% @List.countP_cons:=@List.countP_cons
theorem quY:type_of% @Array.getElem?_eq_none:=@Array.getElem?_eq_none
theorem quZ:type_of% @List.drop_eq_nil_of_le:=@List.drop_eq_nil_of_le
theorem qu0:type_of% @List.drop_eq_getElem_cons:=@List.drop_eq_getElem_cons
theorem qu1:type_of% @Bool.false_eq:=@Bool.false_eq
theorem qu2:type_of% @List.length_nil:=@List.length_nil
theorem qu3:type_of% @Array.getElem?_setIfInBounds_self_of_lt:=@Array.getElem?_setIfInBounds_self_of_lt
theorem qu4:type_of% @Bool.and_eq_false_iff:=@Bool.and_eq_false_iff
theorem qu8:type_of% @Option.isSome_iff_exists:=@Option.isSome_iff_exists
theorem qu9:type_of% @Bool.not_eq_true:=@Bool.not_eq_true
theorem qva:type_of% @Nat.lt_or_ge:=@Nat.lt_or_ge
theorem qvb:type_of% @List.any_eq_true:=@List.any_eq_true
theorem qvc:type_of% @Array.ext_getElem?:=@Array.ext_getElem?
theorem qvd:type_of% @List.getElem?_toArray:=@List.getElem?_toArray
theorem qve:type_of% @Array.getElem?_toList:=@Array.getElem?_toList
theorem qvf:type_of% @List.mem_append_right:=@List.mem_append_right
theorem qvg:type_of% @List.mem_cons_of_mem:=@List.mem_cons_of_mem
theorem qvh:type_of% @List.mem_append_left:=@List.mem_append_left
theorem qvk:type_of% @Int.toNat_natCast:=@Int.toNat_natCast
theorem qvl:type_of% @List.find?_append:=@List.find?_append
theorem qvm:type_of% @List.map_map:=@List.map_map
theorem qvn:type_of% @List.length_eq_zero_iff:=@List.length_eq_zero_iff
theorem qvo:type_of% @List.getLast?_cons_cons:=@List.getLast?_cons_cons
theorem qvp:type_of% @Bool.true_and:=@Bool.true_and
theorem qvq:type_of% @Nat.add_sub_cancel_left:=@Nat.add_sub_cancel_left
theorem qvr:type_of% @Array.toList_inj:=@Array.toList_inj
theorem qvs:type_of% @List.getElem?_take:=@List.getElem?_take
theorem qvt:type_of% @Nat.add_zero:=@Nat.add_zero
inductive V where
 | top
 | bool (b:Bool)
 | int (k:IntKind) (n:Int)
 | str (s:ByteArray)
 | nilp
 | ptr (l i off st:Nat)
 | glob (g off:Nat)
 | iptr (v:V) (off:Nat)
 | sl (x:Bool) (xs:List V)
 | arr (l off len st:Nat)
 | nilmap
 | map (l:Nat)
 | fn (f:Fn) (first caps:List V)
 | nilfn
 | iface (t:TypeId) (v:V)
 | niliface
 | yld (l:Nat)
 | agg (cs:List V)
 | tup (vs:List V)
 deriving Inhabited
def V.cells:V→List V
 | .agg cs=>cs
 | v=>[v]
structure Blk where
 b:Nat
 N:Nat
 sz:Nat
structure En where
 I:Nat→Nat→Option Value
 ρ:Nat→Nat→Option Blk
inductive VR(E:En):V→Value→Prop
 | top (u:Value):VR E .top u
 | bool (b:Bool):VR E (.bool b) (.bool b)
 | int (k:IntKind) (n:Int):VR E (.int k n) (.int k n)
 | str (s:ByteArray):VR E (.str s) (.string s)
 | nilp:VR E .nilp (.pointer none)
 | ptr {l st:Nat} {x:Blk} (i off:Nat) (h:E.ρ l st=some x):VR E (.ptr l i off st) (.pointer (some ⟨x.b,i * x.sz+off,none⟩))
 | glob (g off:Nat):VR E (.glob g off) (.pointer (some ⟨g,off,none⟩))
 | iptr {v:V} {b o:Nat} (off:Nat) (hI:∀j,j<v.cells.length→(E.I b (o+j)).isSome=true) (hv:∀(j:Nat) (c':V) (c:Value),v.cells[j]?=some c'→E.I b (o+j)=some c→VR E c' c):
  VR E (.iptr v off) (.pointer (some ⟨b,o+off,none⟩))
 | slnil (x:Bool):VR E (.sl x []) (.slice none 0 0)
 | slz (x:Bool) (a:Addr):VR E (.sl x []) (.slice (some a) 0 0)
 | sl {x:Bool} {xs:List V} {b o cap sz:Nat} (hc:xs.length≤cap) (hx:x=true→cap=xs.length) (hs:∀v,v∈xs→v.cells.length=sz)
  (hI:∀i j,i<xs.length→j<sz→(E.I b (o+i * sz+j)).isSome=true)
  (hv:∀(i:Nat) (v:V) (j:Nat) (c':V) (c:Value),xs[i]?=some v→v.cells[j]?=some c'→E.I b (o+i * sz+j)=some c→VR E c' c):VR E (.sl x xs) (.slice (some ⟨b,o,none⟩) xs.length cap)
 | arr {l off len cap st:Nat} {x:Blk} (h:E.ρ l st=some x) (hN:(off+cap) * x.sz≤x.N) (hc:len≤cap):VR E (.arr l off len st) (.slice (some ⟨x.b,off * x.sz,none⟩) len cap)
 | nilmap:VR E .nilmap (.map none)
 | map {l:Nat} {x:Blk} (h:E.ρ l 0=some x):VR E (.map l) (.map (some x.b))
 | fn {f:Fn} {fs cs:List V} {us ws:Array Value} (h1:fs.length=us.size) (h2:cs.length=ws.size) (g1:∀(i:Nat) (v:V) (u:Value),fs[i]?=some v→us[i]?=some u→VR E v u) (g2:∀(i:Nat) (v:V) (u:Value),cs[i]?=some v→ws[i]?=some u→VR E v u):
  VR E (.fn f fs cs) (.func f us ws)
 | nilfn:VR E .nilfn .nilFunc
 | iface {v:V} {u:Value} (t:TypeId) (h:VR E v u):VR E (.iface t v) (.iface t u)
 | niliface:VR E .niliface .nilIface
 | yld {l:Nat} {x:Blk} (h:E.ρ l 0=some x):VR E (.yld l) (.func (.yield x.b) #[] #[])
 | agg {cs:List V} {us:Array Value} (h:cs.length=us.size) (g:∀(i:Nat) (v:V) (u:Value),cs[i]?=some v→us[i]?=some u→VR E v u):VR E (.agg cs) (.agg us)
 | tup {cs:List V} {us:Array Value} (h:cs.length=us.size) (g:∀(i:Nat) (v:V) (u:Value),cs[i]?=some v→us[i]?=some u→VR E v u):VR E (.tup cs) (.tuple us)
def En.le(E E':En):Prop:=(∀b o c,E.I b o=some c→E'.I b o=some c)∧∀l st x,E.ρ l st=some x→E'.ρ l st=some x
theorem En.le_refl(E:En):E.le E:=⟨fun _ _ _ h=>h,fun _ _ _ h=>h⟩
theorem qdU{E E':En}(h:E.le E'){b o:Nat}(hs:(E.I b o).isSome=true):(E'.I b o).isSome=true:=by
 obtain ⟨c,hc⟩:=qu8.1 hs;rw[h.1 b o c hc];rfl
theorem qlI{E E':En}(h:E.le E'){b o:Nat}{c:Value}(hs:(E.I b o).isSome=true)(hc:E'.I b o=some c):E.I b o=some c:=by
 obtain ⟨d,hd⟩:=qu8.1 hs;rw[h.1 b o d hd] at hc;rw[hd,hc]
theorem VR.mono{E E':En}(h:E.le E'){v:V}{u:Value}(r:VR E v u):VR E' v u:=by
 induction r with
 | top u=>exact .top u
 | bool b=>exact .bool b
 | int k n=>exact .int k n
 | str s=>exact .str s
 | nilp=>exact .nilp
 | ptr i off hr=>exact .ptr i off (h.2 _ _ _ hr)
 | glob g off=>exact .glob g off
 | iptr off hI _ ih=>exact .iptr off (fun j hj=>qdU h (hI j hj)) (fun j c' c hc hi=>ih j c' c hc (qlI h (hI j (qtB.1 hc).1) hi))
 | slnil x=>exact .slnil x
 | slz x a=>exact .slz x a
 | sl hc hx hs hI _ ih=>
  refine .sl hc hx hs (fun i j hi hj=>qdU h (hI i j hi hj)) (fun i v j c' c hv hcc hi=>ih i v j c' c hv hcc ?_);have h1:=(qtB.1 hv).1;have h2:=(qtB.1 hcc).1;rw[hs v (qtP hv)] at h2;exact qlI h (hI i j h1 h2) hi
 | arr hr hN hc=>exact .arr (h.2 _ _ _ hr) hN hc
 | nilmap=>exact .nilmap
 | map hr=>exact .map (h.2 _ _ _ hr)
 | fn h1 h2 _ _ ih1 ih2=>exact .fn h1 h2 ih1 ih2
 | nilfn=>exact .nilfn
 | iface t _ ih=>exact .iface t ih
 | niliface=>exact .niliface
 | yld hr=>exact .yld (h.2 _ _ _ hr)
 | agg hl _ ih=>exact .agg hl ih
 | tup hl _ ih=>exact .tup hl ih
abbrev Env:=List (Nat×V)
def Env.get:Env→Nat→Option V
 | [],_=>none
 | (k,v)::e,t=>if k=t then some v else Env.get e t
theorem Env.get_mem:∀{e:Env} {t:Nat} {v:V},e.get t=some v→(t,v)∈e
 | [],_,_,h=>by simp[Env.get] at h
 | (k,u)::e,t,v,h=>by
  simp only[Env.get] at h;split at h
  ·rename_i hk;subst hk;cases h;simp
  ·simp[Env.get_mem h]
def Env.put(e:Env)(d:Option Nat)(v:V):Env:=match d with|some t=>(t,v)::e|none=>e
def Env.keep(e:Env):List Nat→Env
 | []=>[]
 | t::ts=>match e.get t with
  | some v=>(t,v)::Env.keep e ts
  | none=>Env.keep e ts
def Tmps(E:En)(e:Env)(tmps:Array Value):Prop:=∀t v,e.get t=some v→∃u,tmps[t]?=some u∧VR E v u
structure LI where
 st:LoopState
 pend:Option Code
 ps:List Nat
 asg:Code
 body:Code
 e:Env
 N:Nat
 deriving Inhabited
inductive Ob where
 | arr (xs:List V) (sz wr:Nat)
 | map (es:List (V×V)) (bs:List Nat) (ck:Nat)
 | iter (lm since:Nat) (seen:List Nat) (last:Nat)
 | dead
 | loop (i:LI)
 deriving Inhabited
abbrev St:=List Ob
def live(S:St)(l:Nat):Prop:=∃o,S[l]?=some o∧o≠.dead
def qh9(E:En)(w:World)(x:Blk)(xs:List V)(n:Nat):Prop:=
 ∃cells t,w.heap[x.b]?=some (.cells cells t (0,0))∧cells.size=x.N∧n * x.sz≤x.N∧
  ∀i v,xs[i]?=some v→i<n→∀j c',v.cells[j]?=some c'→∃c,cells[i * x.sz+j]?=some c∧VR E c' c
def OR(E:En)(w:World)(l:Nat):Ob→Prop
 | .arr xs sz wr=>(0<sz∧wr≤xs.length)∧(∀v,v∈xs→v.cells.length=sz)∧(∀st x,E.ρ l st=some x→wr≤st→st≤xs.length∧x.sz=sz∧qh9 E w x xs st)
 | .map es bs ck=>∃x entries,E.ρ l 0=some x∧w.heap[x.b]?=some (.map entries ck)∧es.length=entries.size∧bs=entries.toList.map (·.born)∧
  ∀(i:Nat) (k v:V) (e:MapEntry),es[i]?=some (k,v)→entries[i]?=some e→VR E k e.key∧VR E v e.val
 | .iter lm since seen last=>∃x y,E.ρ l 0=some x∧E.ρ lm 0=some y∧w.heap[x.b]?=some (.mapIter (some y.b) since seen.toArray last)
 | .dead=>True
 | .loop i=>∃x r,E.ρ l 0=some x∧w.heap[x.b]?=some (.loop r)∧r.state=i.st∧r.pending=i.pend∧r.params.toList=i.ps∧r.assign=i.asg∧r.body=i.body∧r.tmps.size=i.N∧Tmps E i.e r.tmps
def own(E:En)(S:St)(b:Nat):Prop:=∃l st x,live S l∧E.ρ l st=some x∧x.b=b
def qjN(g off:Nat):Option (IntKind×Int):=
 if g=0∧off<256 then some (.u8,if off=9∨off=10∨off=11∨off=12∨off=13∨off=32 then 1 else 0) else if g=2∧off<20 then some (.u64,10 ^ off) else none
def qjR(g:Nat):Option (Array Value):=if g=2 then some (((List.range 20).map fun i=>Value.int .u64 (((10 ^ i:Nat):Int))).toArray) else none
theorem qpZ{g:Nat}(h:qjR g≠none):∃k n,qjN g 0=some (k,n):=by
 unfold qjR at h;split at h
 ·rename_i hg;subst hg;exact ⟨.u64,1,by simp[qjN]⟩
 ·exact absurd rfl h
def GL(E:En)(w:World):Prop:=(∀g o k n,qjN g o=some (k,n)→E.I g o=some (.int k n))∧∀g cs,qjR g=some cs→∃t fz,w.heap[g]?=some (.cells cs t fz)
theorem GL.old{E E':En}{w w':World}(h:GL E w)(hI:∀b o c,E.I b o=some c→E'.I b o=some c)(hw:∀b cs t fz,w.heap[b]?=some (.cells cs t fz)→qjR b≠none→w'.heap[b]?=w.heap[b]?):GL E' w':=
 ⟨fun g o k n hg=>hI _ _ _ (h.1 g o k n hg),fun g cs hg=>let ⟨t,fz,hh⟩:=h.2 g cs hg;⟨t,fz,(hw g cs t fz hh (by rw[hg];simp)).trans hh⟩⟩
theorem qdV{w:World}{b:Nat}{o:Obj}(h:w.heap[b]?=some o):b<w.heap.size:=(qtS.1 h).1
structure SR(E:En)(S:St)(w:World):Prop where
 gl:GL E w
 I:∀b o c,E.I b o=some c→w.cell? ⟨b,o,none⟩=some c
 obs:∀l o,S[l]?=some o→OR E w l o
 dom:∀l st x,E.ρ l st=some x→l<S.length
 apart:∀b o,own E S b→E.I b o=none
 lt:∀b,own E S b→b<w.heap.size
 inj:∀l l' st st' x x',live S l→live S l'→E.ρ l st=some x→E.ρ l' st'=some x'→x.b=x'.b→l=l'
structure Ext(n:Nat)(E:En)(S:St)(w:World)(E':En)(S':St)(w':World):Prop where
 size:w.heap.size≤w'.heap.size
 I:∀b o c,E.I b o=some c→E'.I b o=some c
 ρ:∀l st x,l<n→E.ρ l st=some x→E'.ρ l st=some x
 no:∀l,l<n→(∀st,E.ρ l st=none)→∀st,E'.ρ l st=none
 own:∀b,own E' S' b→own E S b∨w.heap.size≤b
 newI:∀b o c,E'.I b o=some c→E.I b o=some c∨Go.Proofs.YtbifpocccfkhhaaGreatDoor.own E S b∨w.heap.size≤b
 frame:∀b,b<w.heap.size→¬ Go.Proofs.YtbifpocccfkhhaaGreatDoor.own E S b→w'.heap[b]?=w.heap[b]?
 out:(w'.output,w'.os)=(w.output,w.os)
theorem Ext.refl(n:Nat)(E:En)(S:St)(w:World):Ext n E S w E S w:=
 ⟨qtH _,fun _ _ _ h=>h,fun _ _ _ _ h=>h,fun _ _ h=>h,fun _ h=>.inl h,fun _ _ _ h=>.inl h,fun _ _ _=>rfl,rfl⟩
theorem Ext.trans{n:Nat}{E E1 E2:En}{S S1 S2:St}{w w1 w2:World}(h:Ext n E S w E1 S1 w1)(g:Ext n E1 S1 w1 E2 S2 w2):Ext n E S w E2 S2 w2 where
 size:=quF h.size g.size
 I b o c x:=g.I b o c (h.I b o c x)
 ρ l st x hl hx:=g.ρ l st x hl (h.ρ l st x hl hx)
 no l hl hx:=g.no l hl (h.no l hl hx)
 own b hb:=by
  rcases g.own b hb with hb|hb
  ·exact h.own b hb
  ·exact .inr (quF h.size hb)
 newI b o c hc:=by
  rcases g.newI b o c hc with hc|hb|hb
  ·exact h.newI b o c hc
  ·exact .inr (h.own b hb)
  ·exact .inr (.inr (quF h.size hb))
 frame b hb hn:=by
  rw[g.frame b (quk hb h.size) (fun ho=>?_),h.frame b hb hn];rcases h.own b ho with ho|ho
  ·exact hn ho
  ·omega
 out:=g.out.trans h.out
theorem Ext.less{n m:Nat}{E E':En}{S S':St}{w w':World}(h:Ext n E S w E' S' w')(hm:m≤n):Ext m E S w E' S' w':=
 { h with ρ:=fun l st x hl hx=>h.ρ l st x (quk hl hm) hx,no:=fun l hl hx=>h.no l (quk hl hm) hx }
theorem Ext.le{E E':En}{S S':St}{w w':World}(h:Ext S.length E S w E' S' w')(r:SR E S w):E.le E':=
 ⟨h.I,fun l st x hx=>h.ρ l st x (r.dom l st x hx) hx⟩
theorem Tmps.mono{E E':En}{e:Env}{tmps:Array Value}(h:Tmps E e tmps)(g:E.le E'):Tmps E' e tmps:=
 fun t v hv=>let ⟨u,hu,r⟩:=h t v hv;⟨u,hu,r.mono g⟩
theorem Tmps.put{E:En}{e:Env}{tmps:Array Value}(h:Tmps E e tmps){d:Nat}{v:V}{u:Value}(hd:d<tmps.size)(r:VR E v u):Tmps E (e.put (some d) v) (tmps.setIfInBounds d u):=by
 intro t v' hv;simp only[Env.put,Env.get] at hv;split at hv
 ·rename_i hk;subst hk;cases hv;exact ⟨u,by simp[hd],r⟩
 ·rename_i hk;obtain ⟨u',hu,r'⟩:=h t v' hv;exact ⟨u',by rw[qt5 hk];exact hu,r'⟩
theorem Env.get_keep{e:Env}:∀{ts:List Nat} {t:Nat} {v:V},(e.keep ts).get t=some v→e.get t=some v
 | [],_,_,h=>by simp[Env.keep,Env.get] at h
 | s::ts,t,v,h=>by
  simp only[Env.keep] at h;split at h
  ·rename_i v' hv;simp only[Env.get] at h;split at h
   ·rename_i hk;subst hk;cases h;exact hv
   ·exact Env.get_keep h
  ·exact Env.get_keep h
theorem Tmps.keep{E:En}{e:Env}{tmps:Array Value}(h:Tmps E e tmps)(ts:List Nat):Tmps E (e.keep ts) tmps:=fun t v hv=>h t v (Env.get_keep hv)
def qdJ(m:Nat)(E:En)(S:St)(w:World):List Deferred→Prop
 | []=>True
 | d::ds=>(∃r,d.target=.collected r∧m≤r∧w.heap[r]?=some (.deferred (some []))∧¬ own E S r∧∀d',d'∈ds→d'.target≠.collected r)∧qdJ m E S w ds
theorem qdJ.step{m n:Nat}{E E':En}{S S':St}{w w':World}(h:Ext n E S w E' S' w'):∀{ds:List Deferred},qdJ m E S w ds→qdJ m E' S' w' ds
 | [],_=>trivial
 | d::ds,⟨⟨r,h1,h2,h3,h4,h5⟩,hd⟩=>by
  have hlt:r<w.heap.size:=(qtS.1 h3).1;refine ⟨⟨r,h1,h2,(h.frame r hlt h4).trans h3,fun ho=>?_,h5⟩,qdJ.step h hd⟩;rcases h.own r ho with ho|ho
  ·exact h4 ho
  ·omega
def qeo(m:Nat)(E:En)(S:St)(w:World)(ds:List Deferred):Prop:=m≤w.heap.size∧qdJ m E S w ds
theorem qeo.step{m n:Nat}{E E':En}{S S':St}{w w':World}{ds:List Deferred}(h:Ext n E S w E' S' w')(g:qeo m E S w ds):qeo m E' S' w' ds:=
 ⟨quF g.1 h.size,g.2.step h⟩
structure Rel(N:Nat)(n0 m0:Nat)(E:En)(e:Env)(S:St)(a:Act)(w:World):Prop where
 tmps:Tmps E e a.tmps
 size:a.tmps.size=N
 defers:qeo m0 E S w a.defers
 base:n0≤S.length
 sr:SR E S w
def En.at(E:En)(l st:Nat)(x:Blk):En:={ E with ρ:=fun l' st'=>if l'=l∧st'=st then some x else E.ρ l' st' }
def En.lay(E:En)(b:Nat)(cells:Array Value):En:={ E with I:=fun b' o=>if b'=b then cells[o]? else E.I b' o }
theorem qh9.mono{E E':En}{w w':World}{x:Blk}{xs:List V}{n:Nat}(h:qh9 E w x xs n)(g:E.le E')(hw:w'.heap[x.b]?=w.heap[x.b]?):qh9 E' w' x xs n:=by
 obtain ⟨cells,t,h1,h2,h3,h4⟩:=h;refine ⟨cells,t,hw.trans h1,h2,h3,fun i v hv hi j c' hc=>?_⟩;obtain ⟨c,hc1,hc2⟩:=h4 i v hv hi j c' hc;exact ⟨c,hc1,hc2.mono g⟩
theorem OR.mono{E E':En}{w w':World}{l:Nat}{o:Ob}(h:OR E w l o)(g:E.le E')(hb:∀st x,E'.ρ l st=some x→E.ρ l st=some x)
  (hw:∀st x,E.ρ l st=some x→w'.heap[x.b]?=w.heap[x.b]?):OR E' w' l o:=by
 cases o with
 | arr xs sz wr=>
  obtain ⟨h0,h1,h2⟩:=h;refine ⟨h0,h1,fun st x hx hwr=>?_⟩;obtain ⟨a,b,c⟩:=h2 st x (hb st x hx) hwr;exact ⟨a,b,c.mono g (hw st x (hb st x hx))⟩
 | map es bs ck=>
  obtain ⟨x,entries,h1,h2,h3,hb,h4⟩:=h;refine ⟨x,entries,g.2 _ _ _ h1,(hw 0 x h1).trans h2,h3,hb,fun i k v e hk he=>?_⟩;obtain ⟨a,b⟩:=h4 i k v e hk he;exact ⟨a.mono g,b.mono g⟩
 | iter lm since seen last=>
  obtain ⟨x,y,h1,h2,h3⟩:=h;exact ⟨x,y,g.2 _ _ _ h1,g.2 _ _ _ h2,(hw 0 x h1).trans h3⟩
 | dead=>trivial
 | loop i=>
  obtain ⟨x,r,h1,h2,h3,h4,h5,h6,h7,h8,h9⟩:=h;exact ⟨x,r,g.2 _ _ _ h1,(hw 0 x h1).trans h2,h3,h4,h5,h6,h7,h8,h9.mono g⟩
theorem cell?_heap{w w':World}{b o:Nat}(h:w'.heap[b]?=w.heap[b]?):w'.cell? ⟨b,o,none⟩=w.cell? ⟨b,o,none⟩:=by
 unfold World.cell?;simp only[h]
theorem cell?_lt{w:World}{b o:Nat}{c:Value}(h:w.cell? ⟨b,o,none⟩=some c):b<w.heap.size:=by
 unfold World.cell? at h;rcases qva b w.heap.size with hb|hb
 ·exact hb
 ·simp[quY hb] at h
theorem qbk{w:World}{o:Obj}{b:Nat}(h:b<w.heap.size):({ w with heap:=w.heap.push o }:World).heap[b]?=w.heap[b]?:=by
 simp only[quA];rw[if_neg (by omega)]
theorem qcT{w:World}{o:Obj}:({ w with heap:=w.heap.push o }:World).heap[w.heap.size]?=some o:=by
 simp
theorem SR.heap{E:En}{S:St}{w w':World}(h:SR E S w)(hw:w'.heap=w.heap):SR E S w' where
 gl:=h.gl.old (fun _ _ _ h=>h) (fun b _ _ _ _ _=>by rw[hw])
 I b o c hc:=(cell?_heap (w:=w) (w':=w') (by rw[hw])).trans (h.I b o c hc)
 obs l o ho:=(h.obs l o ho).mono (En.le_refl E) (fun _ _ x=>x) (fun _ _ _=>by rw[hw])
 dom:=h.dom
 apart:=h.apart
 lt b hb:=by rw[hw];exact h.lt b hb
 inj:=h.inj
theorem Ext.heap{E:En}{S:St}{w w':World}(n:Nat)(hw:w'.heap=w.heap)(ho:(w'.output,w'.os)=(w.output,w.os)):Ext n E S w E S w':=
 { Ext.refl n E S w with size:=by rw[hw];exact qtH _,own:=fun _ h=>.inl h,newI:=fun _ _ _ h=>.inl h,frame:=fun _ _ _=>by rw[hw],out:=ho }
theorem qeM{S:St}{l:Nat}(h:live S l):l<S.length:=by
 obtain ⟨o,ho,_⟩:=h;exact (qtB.1 ho).1
theorem qdS{S:St}{o:Ob}{l:Nat}(h:live (S++[o]) l):live S l∨l=S.length:=by
 obtain ⟨p,hp,hd⟩:=h;rcases Nat.lt_trichotomy l S.length with hl|hl|hl
 ·exact .inl ⟨p,by rw[qtD hl] at hp;exact hp,hd⟩
 ·exact .inr hl
 ·have:=(qtB.1 hp).1;simp at this;omega
theorem qa8{E:En}{l st:Nat}{x:Blk}:(E.at l st x).ρ l st=some x:=by simp[En.at]
theorem qbD{E:En}{l st l' st':Nat}{x:Blk}(h:l'≠l):(E.at l st x).ρ l' st'=E.ρ l' st':=by simp[En.at,h]
theorem qfp{E:En}{l st:Nat}{x:Blk}(h:E.ρ l st=none):E.le (E.at l st x):=
 ⟨fun _ _ _ h=>h,fun l' st' y hy=>by
  by_cases hk:l'=l∧st'=st
  ·obtain ⟨rfl,rfl⟩:=hk;rw[h] at hy;cases hy
  ·simp[En.at,hk];exact hy⟩
theorem SR.new{E:En}{S:St}{w:World}(h:SR E S w){o:Obj}{ob:Ob}{st N sz:Nat}
  (ho:OR (E.at S.length st ⟨w.heap.size,N,sz⟩) { w with heap:=w.heap.push o } S.length ob):
  SR (E.at S.length st ⟨w.heap.size,N,sz⟩) (S++[ob]) { w with heap:=w.heap.push o }∧
  Ext S.length E S w (E.at S.length st ⟨w.heap.size,N,sz⟩) (S++[ob]) { w with heap:=w.heap.push o }:=by
 have hno:∀st',E.ρ S.length st'=none:=fun st'=>by
  cases hr:E.ρ S.length st' with
  | none=>rfl
  | some x=>exact absurd (h.dom _ _ _ hr) (by omega)
 have hle:E.le (E.at S.length st ⟨w.heap.size,N,sz⟩):=qfp (hno st)
 have hown:∀b,own (E.at S.length st ⟨w.heap.size,N,sz⟩) (S++[ob]) b→own E S b∨b=w.heap.size:=by
  rintro b ⟨l,st',x,hl,hx,rfl⟩;by_cases hk:l=S.length
  ·subst hk;by_cases hs:st'=st
   ·subst hs;rw[qa8] at hx;cases hx;exact .inr rfl
   ·simp[En.at,hs,hno] at hx
  ·rw[qbD hk] at hx;exact .inl ⟨l,st',x,(qdS hl).resolve_right hk,hx,rfl⟩
 refine ⟨⟨h.gl.old hle.1 (fun b _ _ _ hb _=>qbk (qdV hb)),?_,?_,?_,?_,?_,?_⟩,⟨by simp,hle.1,fun l st' x _ hx=>hle.2 l st' x hx,fun l hl hx st'=>by rw[qbD (by omega)];exact hx st',fun b hb=>(hown b hb).imp id (fun e=>by omega),fun b o c hc=>.inl hc,fun b hb _=>qbk hb,rfl⟩⟩
 ·intro b o' c hc;have:=h.I b o' c hc;rw[cell?_heap (qbk (cell?_lt this))];exact this
 ·intro l o' hl;rcases Nat.lt_trichotomy l S.length with hlt|heq|hgt
  ·rw[qtD hlt] at hl;by_cases hd:o'=.dead
   ·subst hd;trivial
   refine (h.obs l o' hl).mono hle (fun st' x hx=>by rw[qbD (by omega)] at hx;exact hx) (fun st' x hx=>qbk (h.lt _ ⟨l,st',x,⟨o',hl,hd⟩,hx,rfl⟩))
  ·subst heq;simp at hl;subst hl;exact ho
  ·have:=(qtB.1 hl).1;simp at this;omega
 ·intro l st' x hx;by_cases hk:l=S.length
  ·subst hk;simp
  ·rw[qbD hk] at hx;have:=h.dom _ _ _ hx;simp;omega
 ·intro b o' hb;rcases hown b hb with hb|rfl
  ·exact h.apart b o' hb
  ·cases hc:E.I w.heap.size o' with
   | none=>exact hc
   | some c=>exact absurd (cell?_lt (h.I _ _ _ hc)) (by omega)
 ·intro b hb;rcases hown b hb with hb|rfl
  ·have:=h.lt b hb;simp;omega
  ·simp
 ·intro l l' st1 st2 x x' hl hl' hx hx' hb
  have key:∀l st' x,live (S++[ob]) l→(E.at S.length st ⟨w.heap.size,N,sz⟩).ρ l st'=some x→(l=S.length∧x.b=w.heap.size)∨(l≠S.length∧live S l∧E.ρ l st'=some x∧x.b<w.heap.size):=by
   intro l st' x hl hx;by_cases hk:l=S.length
   ·subst hk;by_cases hs:st'=st
    ·subst hs;rw[qa8] at hx;cases hx;exact .inl ⟨rfl,rfl⟩
    ·simp[En.at,hs,hno] at hx
   ·rw[qbD hk] at hx;have hl:=(qdS hl).resolve_right hk;exact .inr ⟨hk,hl,hx,h.lt _ ⟨l,st',x,hl,hx,rfl⟩⟩
  rcases key l st1 x hl hx with ⟨h1,h2⟩|⟨h1,h2,h3,h4⟩ <;> rcases key l' st2 x' hl' hx' with ⟨g1,g2⟩|⟨g1,g2,g3,g4⟩
  ·omega
  ·omega
  ·omega
  ·exact h.inj l l' st1 st2 x x' h2 g2 h3 g3 hb
theorem SR.lay{E:En}{S:St}{w:World}(h:SR E S w)(cells:Array Value)(t:TypeId):
  SR (E.lay w.heap.size cells) S { w with heap:=w.heap.push (.cells cells t (0,0)) }∧E.le (E.lay w.heap.size cells)∧
  Ext S.length E S w (E.lay w.heap.size cells) S { w with heap:=w.heap.push (.cells cells t (0,0)) }:=by
 have hno:∀o,E.I w.heap.size o=none:=fun o=>by
  cases hc:E.I w.heap.size o with
  | none=>rfl
  | some c=>exact absurd (cell?_lt (h.I _ _ _ hc)) (by omega)
 have hle:E.le (E.lay w.heap.size cells):=⟨fun b o c hc=>by
  by_cases hb:b=w.heap.size
  ·subst hb;rw[hno] at hc;cases hc
  ·simp[En.lay,hb];exact hc,fun _ _ _ h=>h⟩
 refine ⟨⟨h.gl.old hle.1 (fun b _ _ _ hb _=>qbk (qdV hb)),?_,?_,h.dom,?_,?_,h.inj⟩,hle,⟨by simp,hle.1,fun _ _ _ _ hx=>hx,fun _ _ hx=>hx,fun b hb=>.inl hb,?_,fun b hb _=>qbk hb,rfl⟩⟩
 ·intro b o c hc;by_cases hb:b=w.heap.size
  ·subst hb;simp only[En.lay,if_true] at hc;unfold World.cell?;simpa using hc
  ·simp only[En.lay,hb,if_false] at hc;have:=h.I b o c hc;rw[cell?_heap (qbk (cell?_lt this))];exact this
 ·intro l o hl;by_cases hd:o=.dead
  ·subst hd;trivial
  exact (h.obs l o hl).mono hle (fun _ _ hx=>hx) (fun st' x hx=>qbk (h.lt _ ⟨l,st',x,⟨o,hl,hd⟩,hx,rfl⟩))
 ·intro b o hb;have h1:=h.lt b hb;simp only[En.lay];rw[if_neg (by omega)];exact h.apart b o hb
 ·intro b hb;have:=h.lt b hb;simp;omega
 ·intro b o c hc;by_cases hb:b=w.heap.size
  ·exact .inr (.inr (by omega))
  ·simp only[En.lay,hb,if_false] at hc;exact .inl hc
theorem qce{S:St}{l l':Nat}{o:Ob}(h:live (S.set l o) l')(hl:live S l):live S l':=by
 by_cases hk:l'=l
 ·subst hk;exact hl
 ·obtain ⟨p,hp,hd⟩:=h;rw[qtG (Ne.symm hk)] at hp;exact ⟨p,hp,hd⟩
theorem SR.change{E E':En}{S:St}{w w':World}{l:Nat}{ob:Ob}(h:SR E S w)(hl:live S l)(hI:E'.I=E.I)(hle:E.le E')
  (ho:∀l' st,l'≠l→E'.ρ l' st=E.ρ l' st)
  (hb:∀st y,E'.ρ l st=some y→(∃st' z,E.ρ l st'=some z∧z.b=y.b)∨(w.heap.size≤y.b∧y.b<w'.heap.size∧∃st' z,E.ρ l st'=some z))
  (hs:w.heap.size≤w'.heap.size) (hw:∀b,b<w.heap.size→(∀st y,E.ρ l st=some y→y.b≠b)→w'.heap[b]?=w.heap[b]?)
  (hout:(w'.output,w'.os)=(w.output,w.os)) (hn:OR E' w' l ob):SR E' (S.set l ob) w'∧Ext S.length E S w E' (S.set l ob) w':=by
 have hown:∀b,own E' (S.set l ob) b→own E S b∨(w.heap.size≤b∧b<w'.heap.size):=by
  rintro b ⟨l',st,x,hl',hx,rfl⟩;by_cases hk:l'=l
  ·subst hk;rcases hb st x hx with ⟨st',z,hz,he⟩|hb
   ·exact .inl ⟨l',st',z,hl,hz,he⟩
   ·exact .inr ⟨hb.1,hb.2.1⟩
  ·rw[ho l' st hk] at hx;exact .inl ⟨l',st,x,qce hl' hl,hx,rfl⟩
 have hnot:∀b,b<w.heap.size→¬ own E S b→w'.heap[b]?=w.heap[b]?:=fun b hlt hno=>hw b hlt fun st y hy e=>hno ⟨l,st,y,hl,hy,e⟩
 refine ⟨⟨h.gl.old hle.1 (fun b _ _ _ hb hg=>hw b (qdV hb) fun st y hy he=>by
  obtain ⟨k,n,hn⟩:=qpZ hg;have:=h.gl.1 _ _ _ _ hn
  rw[h.apart b 0 ⟨l,st,y,hl,hy,he⟩] at this;cases this),?_,?_,?_,?_,?_,?_⟩,⟨hs,hle.1,fun l' st x _ hx=>hle.2 l' st x hx,fun l' _ hx st=>by
   by_cases hk:l'=l
   ·subst hk
    cases hy:E'.ρ l' st with
    | none=>rfl
    | some y=>rcases hb st y hy with ⟨st',z,hz,_⟩|⟨_,_,st',z,hz⟩ <;> (rw[hx st'] at hz;cases hz)
   ·rw[ho l' st hk];exact hx st,fun b hb'=>(hown b hb').imp id And.left,fun b o c hc=>.inl (by rw[hI] at hc;exact hc),hnot,hout⟩⟩
 ·intro b o c hc;rw[hI] at hc;have h1:=h.I b o c hc;rw[cell?_heap (hnot b (cell?_lt h1) fun ho'=>by rw[h.apart b o ho'] at hc;cases hc)];exact h1
 ·intro l' o' hl';by_cases hk:l'=l
  ·subst hk;have:=qtE (l:=S) (i:=l') (a:=ob) (qeM hl);rw[this] at hl';cases hl';exact hn
  ·rw[qtG (Ne.symm hk)] at hl';by_cases hd:o'=.dead
   ·subst hd;trivial
   refine (h.obs l' o' hl').mono hle (fun st x hx=>by rw[ho l' st hk] at hx;exact hx) (fun st x hx=>?_);have hlv:live S l':=⟨o',hl',hd⟩;exact hw _ (h.lt _ ⟨l',st,x,hlv,hx,rfl⟩) fun st' y hy e=>hk (h.inj l' l st st' x y hlv hl hx hy e.symm)
 ·intro l' st x hx;by_cases hk:l'=l
  ·subst hk;simp[qeM hl]
  ·rw[ho l' st hk] at hx;have:=h.dom _ _ _ hx;simpa using this
 ·intro b o hb';rw[hI];rcases hown b hb' with hb'|⟨hb',_⟩
  ·exact h.apart b o hb'
  ·cases hc:E.I b o with
   | none=>rfl
   | some c=>exact absurd (cell?_lt (h.I _ _ _ hc)) (by omega)
 ·intro b hb';rcases hown b hb' with hb'|hb'
  ·exact quk (h.lt b hb') hs
  ·exact hb'.2
 ·intro l1 l2 st1 st2 x x' h1 h2 hx hx' he;by_cases k1:l1=l <;> by_cases k2:l2=l
  ·omega
  ·exfalso;subst k1;rw[ho l2 st2 k2] at hx';have hv2:live S l2:=qce h2 hl;rcases hb st1 x hx with ⟨st',z,hz,hzb⟩|⟨hge,_⟩
   ·exact k2 (h.inj l2 l1 st2 st' x' z hv2 hl hx' hz (by omega))
   ·have:=h.lt _ ⟨l2,st2,x',hv2,hx',rfl⟩;omega
  ·exfalso;subst k2;rw[ho l1 st1 k1] at hx;have hv1:live S l1:=qce h1 hl;rcases hb st2 x' hx' with ⟨st',z,hz,hzb⟩|⟨hge,_⟩
   ·exact k1 (h.inj l1 l2 st1 st' x z hv1 hl hx hz (by omega))
   ·have:=h.lt _ ⟨l1,st1,x,hv1,hx,rfl⟩;omega
  ·rw[ho l1 st1 k1] at hx;rw[ho l2 st2 k2] at hx';exact h.inj l1 l2 st1 st2 x x' (qce h1 hl) (qce h2 hl) hx hx' he
def over(C:Array Value)(o:Nat):List Value→Array Value
 | []=>C
 | u::us=>over (C.setIfInBounds o u) (o+1) us
theorem qcH:∀(us:List Value) (C:Array Value) (o:Nat),(over C o us).size=C.size
 | [],_,_=>rfl
 | u::us,C,o=>by rw[over,qcH us];simp
theorem qcW:∀(us:List Value) (C:Array Value) (o k:Nat),o+us.length≤C.size→(over C o us)[k]?=if o≤k∧k<o+us.length then us[k - o]? else C[k]?
 | [],C,o,k,_=>by simp only[over,qu2];rw[if_neg (by omega)]
 | u::us,C,o,k,h=>by
  simp only[que] at h;rw[over,qcW us _ _ _ (by simp;omega)];by_cases h1:k=o
  ·subst h1;rw[if_neg (by omega),if_pos (by simp)];simp only[Nat.sub_self,quL];rw[qu3 (by omega)]
  ·by_cases h2:o+1≤k∧k<o+1+us.length
   ·rw[if_pos h2,if_pos (by simp;omega)];obtain ⟨d,rfl⟩:∃d,k=o+1+d:=⟨k - (o+1),by omega⟩;rw[show o+1+d - (o+1)=d by omega,show o+1+d - o=d+1 by omega,quM]
   ·rw[if_neg h2,if_neg (by simp;omega),qt5 (Ne.symm h1)]
def Value.flat:Value→Bool
 | .agg _=>false
 | .tuple _=>false
 | _=>true
def World.put(w:World)(b:Nat)(C:Array Value)(t:TypeId):World:={ w with heap:=w.heap.setIfInBounds b (.cells C t (0,0)) }
theorem qe0{w:World}{b:Nat}{C:Array Value}{t:TypeId}(h:b<w.heap.size):(World.put w b C t).heap[b]?=some (.cells C t (0,0)):=by
 simp[World.put,h]
theorem qff{w:World}{b b':Nat}{C:Array Value}{t:TypeId}(h:b'≠b):(World.put w b C t).heap[b']?=w.heap[b']?:=by
 simp[World.put,qt5 (Ne.symm h)]
theorem qiE{w:World}{b:Nat}{C:Array Value}{t:TypeId}:(World.put w b C t).heap.size=w.heap.size:=by simp[World.put]
theorem cell?_of{w:World}{b o:Nat}{C:Array Value}{t:TypeId}{f:Nat×Nat}(h:w.heap[b]?=some (.cells C t f)):w.cell? ⟨b,o,none⟩=C[o]?:=by
 simp[World.cell?,h]
theorem frozen?_of{w:World}{b o:Nat}{C:Array Value}{t:TypeId}(h:w.heap[b]?=some (.cells C t (0,0))):w.frozen? ⟨b,o,none⟩=false:=by
 simp[World.frozen?,h]
theorem qic{w:World}{b o:Nat}{C:Array Value}{t:TypeId}{v:Value}(h:w.heap[b]?=some (.cells C t (0,0))):w.setCell ⟨b,o,none⟩ v=World.put w b (C.setIfInBounds o v) t:=by
 have hb:b<w.heap.size:=(qtS.1 h).1;have he:w.heap[b]=.cells C t (0,0):=(qtS.1 h).2;unfold World.setCell World.put;congr 1;apply qvc;intro i;by_cases hi:i=b
 ·subst hi;rw[qu3 hb];rw[quP];simp[h]
 ·rw[qt5 (Ne.symm hi),quP,if_neg (Ne.symm hi)]
theorem qqb{w:World}{b:Nat}{C D:Array Value}{t:TypeId}:World.put (World.put w b C t) b D t=World.put w b D t:=by
 simp[World.put]
theorem qsP{w:World}{b:Nat}{C:Array Value}{t:TypeId}(h:w.heap[b]?=some (.cells C t (0,0))):World.put w b C t=w:=by
 have hb:b<w.heap.size:=(qtS.1 h).1
 have:w.heap.setIfInBounds b (.cells C t (0,0))=w.heap:=by
  apply qvc;intro i;by_cases hi:i=b
  ·subst hi;rw[qu3 hb,h]
  ·rw[qt5 (Ne.symm hi)]
 unfold World.put;rw[this]
theorem qbF(b o i:Nat):(⟨b,o,none⟩:Addr).add i=⟨b,o+i,none⟩:=by
 unfold Addr.add;split
 ·rename_i h;subst h;rfl
 ·rfl
theorem qj8{P:Program}{w:World}{b o:Nat}{C:Array Value}{t:TypeId}{v:Value}(h:w.heap[b]?=some (.cells C t (0,0)))(ho:o<C.size)(hv:Value.flat v=true):
  (store ⟨b,o,none⟩ v).run P w=.ok () (World.put w b (C.setIfInBounds o v) t):=by
 have hc:w.cell? ⟨b,o,none⟩=some C[o]:=by rw[cell?_of h];simp[ho]
 rw[←qic h];cases v <;> first|(simp[Value.flat] at hv;done)|simp[store,Sem.run,hc,frozen?_of h]
theorem qcB{P:Program}{b o:Nat}{t:TypeId}:∀(us:List Value) (i:Nat) (w:World) (C:Array Value),w.heap[b]?=some (.cells C t (0,0))→o+i+us.length≤C.size→
  (∀u,u∈us→Value.flat u=true)→(storeCells ⟨b,o,none⟩ us i).run P w=.ok () (World.put w b (over C (o+i) us) t)
 | [],i,w,C,h,_,_=>by simp only[storeCells,over];rw[qsP h];rfl
 | u::us,i,w,C,h,hs,hf=>by
  simp only[que] at hs;simp only[storeCells,qbF,Sem.run_bind];rw[qj8 h (by omega) (hf u (by simp))];simp only[Result.andThen];have hb:b<w.heap.size:=(qtS.1 h).1;rw[qcB us (i+1) _ _ (qe0 hb) (by simp;omega) (fun x hx=>hf x (by simp[hx])),qqb];rfl
theorem qhy{P:Program}{w:World}{b o:Nat}{u:Value}(h:w.cell? ⟨b,o,none⟩=some u):(load ⟨b,o,none⟩).run P w=.ok u w:=by
 simp[load,Sem.run,h]
theorem qeP{P:Program}{w:World}{b o:Nat}:∀(n i:Nat) (acc:Array Value) (us:List Value),us.length=n→(∀j,j<n→w.cell? ⟨b,o+i+j,none⟩=us[j]?)→
  (loadCellsFrom ⟨b,o,none⟩ i n acc).run P w=.ok (acc++us.toArray) w
 | 0,i,acc,us,hl,_=>by
  have:us=[]:=qvn.1 hl;subst this;simp[loadCellsFrom,Sem.run_pure]
 | n+1,i,acc,us,hl,h=>by
  cases us with
  | nil=>simp at hl
  | cons u us=>
   simp only[que,Nat.add_right_cancel_iff] at hl;simp only[loadCellsFrom,qbF,Sem.run_bind];rw[qhy (u:=u) (by simpa using h 0 (by omega))];simp only[Result.andThen]
   rw[qeP n (i+1) (acc.push u) us hl (fun j hj=>by
    have:=h (j+1) (by omega);rw[quM] at this;rw[←this];congr 2;omega)]
   simp
theorem qg5{P:Program}{w:World}{b o n:Nat}{us:List Value}(hl:us.length=n)(h:∀j,j<n→w.cell? ⟨b,o+j,none⟩=us[j]?):
  (loadCells ⟨b,o,none⟩ n).run P w=.ok us.toArray w:=by
 unfold loadCells;rw[qeP n 0 #[] us hl (by simpa using h)];simp
def V.flat:V→Bool
 | .agg _=>false
 | .tup _=>false
 | .top=>false
 | _=>true
def V.isAgg:V→Bool
 | .agg _=>true
 | _=>false
def V.size(v:V):Nat:=v.cells.length
def V.part(v:V)(off:Nat):Option Nat→Option V
 | none=>v.cells[off]?
 | some n=>if off=0∧n=v.size∧v.isAgg=true then some v else match v with
  | .agg cs=>if off+n≤cs.length then some (.agg ((cs.drop off).take n)) else none
  | _=>none
def V.upd(v:V)(off n:Nat)(x:V):Option V:=
 if x.size=n∧(x.cells.all V.flat)=true then
  if off=0∧n=v.size then some x else match v with
  | .agg cs=>if off+n≤cs.length then some (.agg (cs.take off++x.cells++cs.drop (off+n))) else none
  | _=>none
 else none
theorem VR.flat{E:En}{v:V}{u:Value}(h:VR E v u)(hv:v.flat=true):Value.flat u=true:=by
 cases h <;> first|rfl|(simp[V.flat] at hv)
theorem VR.cells{E:En}{v:V}{u:Value}(h:VR E v u)(hnt:v≠.top):v.cells.length=u.cells.size∧∀(i:Nat) (c:V) (d:Value),v.cells[i]?=some c→u.cells[i]?=some d→VR E c d:=by
 have one:∀{v:V} {u:Value},VR E v u→v.cells=[v]→u.cells=#[u]→v.cells.length=u.cells.size∧∀(i:Nat) (c:V) (d:Value),v.cells[i]?=some c→u.cells[i]?=some d→VR E c d:=by
  intro v u h h1 h2;rw[h1,h2];refine ⟨rfl,fun i c d hc hd=>?_⟩
  cases i with
  | zero=>simp at hc hd;subst hc;subst hd;exact h
  | succ i=>simp at hc
 cases h with
 | top u=>exact absurd rfl hnt
 | agg h g=>exact ⟨h,g⟩
 | bool b=>exact one (.bool b) rfl rfl
 | int k n=>exact one (.int k n) rfl rfl
 | str s=>exact one (.str s) rfl rfl
 | nilp=>exact one .nilp rfl rfl
 | ptr i off hr=>exact one (.ptr i off hr) rfl rfl
 | glob g off=>exact one (.glob g off) rfl rfl
 | iptr off hI hv=>exact one (.iptr off hI hv) rfl rfl
 | slnil x=>exact one (.slnil x) rfl rfl
 | slz x a=>exact one (.slz x a) rfl rfl
 | sl hc hx hs hI hv=>exact one (.sl hc hx hs hI hv) rfl rfl
 | arr hr hN hc=>exact one (.arr hr hN hc) rfl rfl
 | nilmap=>exact one .nilmap rfl rfl
 | map hr=>exact one (.map hr) rfl rfl
 | fn h1 h2 g1 g2=>exact one (.fn h1 h2 g1 g2) rfl rfl
 | nilfn=>exact one .nilfn rfl rfl
 | iface t h=>exact one (.iface t h) rfl rfl
 | niliface=>exact one .niliface rfl rfl
 | yld hr=>exact one (.yld hr) rfl rfl
 | tup h g=>exact one (.tup h g) rfl rfl
theorem VR.cells_ex{E:En}{v:V}{u:Value}(h:VR E v u)(hv:v≠.top){i:Nat}{c:V}(hc:v.cells[i]?=some c):∃d,u.cells[i]?=some d∧VR E c d:=by
 obtain ⟨h1,h2⟩:=h.cells hv;have hi:=(qtB.1 hc).1;have:i<u.cells.size:=by omega
 exact ⟨u.cells[i],by simp[this],h2 i c _ hc (by simp[this])⟩
def At(E:En)(w:World)(b o:Nat)(v:V):Prop:=∀j c,v.cells[j]?=some c→∃d,w.cell? ⟨b,o+j,none⟩=some d∧VR E c d
theorem At.cell{E:En}{P:Program}{w:World}{b o off:Nat}{v c:V}(h:At E w b o v)(hc:v.part off none=some c):∃d,(load ⟨b,o+off,none⟩).run P w=.ok d w∧VR E c d:=by
 obtain ⟨d,hd,hr⟩:=h off c hc;exact ⟨d,qhy hd,hr⟩
theorem qeH{E:En}{P:Program}{w:World}{b o n:Nat}{cs:List V}(hl:cs.length=n)(h:∀j c,cs[j]?=some c→∃d,w.cell? ⟨b,o+j,none⟩=some d∧VR E c d):
  ∃us,(loadCells ⟨b,o,none⟩ n).run P w=.ok us w∧VR E (.agg cs) (.agg us):=by
 have hex:∀j,j<n→∃d,w.cell? ⟨b,o+j,none⟩=some d:=fun j hj=>by
  obtain ⟨d,hd,_⟩:=h j cs[j] (by simp);exact ⟨d,hd⟩
 let us:List Value:=(List.range n).map fun j=>(w.cell? ⟨b,o+j,none⟩).getD undef
 have hus:us.length=n:=by simp[us]
 have hget:∀j,j<n→w.cell? ⟨b,o+j,none⟩=us[j]?:=fun j hj=>by
  obtain ⟨d,hd⟩:=hex j hj;simp[us,hj,hd]
 refine ⟨us.toArray,qg5 hus hget,.agg (by simp[hus,hl]) fun i v u hv hu=>?_⟩;have hi:i<n:=by rw[←hl];exact (qtB.1 hv).1
 obtain ⟨d,hd,hr⟩:=h i v hv;rw[hget i hi] at hd;simp at hu;rw[hd] at hu;cases hu;exact hr
theorem At.agg{E:En}{P:Program}{w:World}{b o off n:Nat}{v r:V}(h:At E w b o v)(hr:v.part off (some n)=some r):
  ∃us,(loadCells ⟨b,o+off,none⟩ n).run P w=.ok us w∧VR E r (.agg us):=by
 simp only[V.part] at hr;split at hr
 ·rename_i hc;obtain ⟨rfl,rfl,ha⟩:=hc;cases hr;cases v <;> simp[V.isAgg] at ha;rename_i cs;exact qeH rfl (fun j c hc=>by simpa using h j c hc)
 ·split at hr
  ·rename_i cs;split at hr
   ·rename_i hle;cases hr;refine qeH (by simp;omega) fun j c hc=>?_
    have hj:j<n:=by
     have:=(qtB.1 hc).1;simp at this;omega
    rw[qt9 hj,qun] at hc;obtain ⟨d,hd,hr⟩:=h (off+j) c hc;exact ⟨d,by rw[←hd];congr 2;omega,hr⟩
   ·cases hr
  ·cases hr
def qa4(P:Program)(t:TypeId):Option (Option Nat):=
 match P.underlying t with
 | some (.struct _)|some (.array _ _)=>(P.info? t).map fun i=>some i.size
 | some _=>some none
 | none=>none
theorem qad{P:Program}{t:TypeId}{d:TypeDesc}{w:World}(h:P.underlying t=some d):(underlying t).run P w=.ok d w:=by
 simp[underlying,program,Sem.run_bind,Sem.run,Result.andThen,h,Sem.run_pure]
theorem qcz{P:Program}{t:TypeId}{i:TypeInfo}{w:World}(h:P.info? t=some i):(typeInfo t).run P w=.ok i w:=by
 have h':P.toTables.info? t=some i:=h;simp[typeInfo,program,Sem.run_bind,Sem.run,Result.andThen,h',Sem.run_pure]
theorem qa0{P:Program}{t:TypeId}{i:TypeInfo}{w:World}(h:P.info? t=some i):(sizeOf t).run P w=.ok i.size w:=by
 simp[sizeOf,qcz h,Result.andThen]
theorem qdL{E:En}{P:Program}{w:World}{b o off:Nat}{v r:V}{t:TypeId}{k:Option Nat}(hk:qa4 P t=some k)(h:At E w b o v)(hr:v.part off k=some r):
  ∃u,(loadVar t ⟨b,o+off,none⟩).run P w=.ok u w∧VR E r u:=by
 unfold qa4 at hk
 have scalar:∀d,P.underlying t=some d→(∀fs,d≠.struct fs)→(∀n e,d≠.array n e)→k=none→∃u,(loadVar t ⟨b,o+off,none⟩).run P w=.ok u w∧VR E r u:=by
  intro d hd h1 h2 hk;subst hk;obtain ⟨u,hu,hr⟩:=h.cell (P:=P) hr;refine ⟨u,?_,hr⟩
  have:(isAgg t).run P w=.ok false w:=by
   simp only[isAgg,Sem.run_bind,qad hd,Result.andThen];cases d <;> first|rfl|exact absurd rfl (h1 _)|exact absurd rfl (h2 _ _)
  simp only[loadVar,Sem.run_bind,this,Result.andThen];exact hu
 have agg:∀d,P.underlying t=some d→(∃fs,d=.struct fs)∨(∃n e,d=.array n e)→((P.info? t).map fun i=>some i.size)=some k→∃u,(loadVar t ⟨b,o+off,none⟩).run P w=.ok u w∧VR E r u:=by
  intro d hd h1 hk
  cases hi:P.info? t with
  | none=>rw[hi] at hk;cases hk
  | some i=>
   rw[hi] at hk;cases hk;obtain ⟨us,hu,hr⟩:=h.agg (P:=P) hr
   have:(isAgg t).run P w=.ok true w:=by
    simp only[isAgg,Sem.run_bind,qad hd,Result.andThen];rcases h1 with ⟨fs,rfl⟩|⟨n,e,rfl⟩ <;> rfl
   refine ⟨.agg us,?_,hr⟩;simp only[loadVar,Sem.run_bind,this,Result.andThen,if_true,qa0 hi,hu];rfl
 cases hd:P.underlying t with
 | none=>rw[hd] at hk;cases hk
 | some d=>
  rw[hd] at hk;cases d <;> first
   | exact agg _ hd (.inl ⟨_,rfl⟩) hk
   | exact agg _ hd (.inr ⟨_,_,rfl⟩) hk
   | (cases hk;exact scalar _ hd (fun _=>by simp) (fun _ _=>by simp) rfl)
def ldS(S:St)(p:V)(k:Option Nat):Option V:=
 match p with
 | .iptr v off=>v.part off k
 | .ptr l i off st=>match S[l]? with
  | some (.arr xs _ wr)=>if wr≤st∧i<st then (xs[i]?).bind fun v=>v.part off k else none
  | _=>none
 | .glob g off=>match qjN g off with
  | some (kd,n)=>(V.int kd n).part 0 k
  | none=>none
 | _=>none
theorem At.of_I{E:En}{S:St}{w:World}(hs:SR E S w){v:V}{b o:Nat}(hI:∀j,j<v.cells.length→(E.I b (o+j)).isSome=true)
  (hv:∀j c' c,v.cells[j]?=some c'→E.I b (o+j)=some c→VR E c' c):At E w b o v:=fun j c hc=>by
 obtain ⟨d,hd⟩:=qu8.1 (hI j (qtB.1 hc).1);exact ⟨d,hs.I _ _ _ hd,hv j c d hc hd⟩
theorem At.of_ob{E:En}{S:St}{w:World}(hs:SR E S w){l i st sz wr:Nat}{xs:List V}{v:V}{x:Blk}(ho:S[l]?=some (.arr xs sz wr))(hx:E.ρ l st=some x)(hwr:wr≤st)(hi:i<st)(hv:xs[i]?=some v):
  At E w x.b (i * x.sz) v:=fun j c hc=>by
 obtain ⟨h0,h1,h2⟩:=hs.obs l _ ho;obtain ⟨h3,h4,cells,t,h5,h6,h7,h8⟩:=h2 st x hx hwr;obtain ⟨d,hd,hr⟩:=h8 i v hv hi j c hc;exact ⟨d,by rw[cell?_of h5];exact hd,hr⟩
theorem qiL{E:En}{S:St}{P:Program}{w:World}{p r:V}{u:Value}{t:TypeId}{k:Option Nat}(hs:SR E S w)(hp:VR E p u)(hk:qa4 P t=some k)(hr:ldS S p k=some r):
    ∃d,(Instr.loadAt t u).run P w=.ok d w∧VR E r d:=by
  cases hp with
  | glob g off=>
    simp only[ldS] at hr;split at hr
    · rename_i kd n hg
      obtain ⟨d,hd,hr⟩:=qdL (P:=P) (b:=g) (o:=off) hk (show At E w g off (.int kd n) from fun j c hc=>by
        match j with
        | 0=>simp[V.cells] at hc;subst hc;exact ⟨_,hs.I _ _ _ (hs.gl.1 _ _ _ _ hg),.int kd n⟩
        | j+1=>simp[V.cells] at hc) hr
      exact ⟨d,by simp only[Instr.loadAt,Instr.sureAddr,Sem.run_bind,Sem.run_pure,Result.andThen];exact hd,hr⟩
    · cases hr
  | iptr off hI hv=>
    obtain ⟨d,hd,hr⟩:=qdL (P:=P) hk (At.of_I hs hI hv) hr;exact ⟨d,by simp only[Instr.loadAt,Instr.sureAddr,Sem.run_bind,Sem.run_pure,Result.andThen];exact hd,hr⟩
  | ptr i off hx=>
    simp only[ldS] at hr;split at hr
    · rename_i xs sz wr ho;split at hr
      · rename_i hc
        cases hv:xs[i]? with
        | none=>rw[hv] at hr;cases hr
        | some v=>
          rw[hv] at hr;obtain ⟨d,hd,hr⟩:=qdL (P:=P) hk (At.of_ob hs ho hx hc.1 hc.2 hv) hr;exact ⟨d,by simp only[Instr.loadAt,Instr.sureAddr,Sem.run_bind,Sem.run_pure,Result.andThen];exact hd,hr⟩
      · cases hr
    · cases hr
  | _=>simp[ldS] at hr
def stS(S:St)(p:V)(n:Nat)(x:V):Option St:=
 match p with
 | .ptr l i off st=>match S[l]? with
  | some (.arr xs sz _)=>if st=xs.length then (xs[i]?).bind fun v=>(v.upd off n x).map fun v'=>S.set l (.arr (xs.set i v') sz st) else none
  | _=>none
 | _=>none
theorem qiN{v x v':V}{off n:Nat}(h:v.upd off n x=some v'):x.size=n∧x.cells.all V.flat=true∧off+n≤v.cells.length∧v'.cells.length=v.cells.length∧
  ∀j,v'.cells[j]?=if off≤j∧j<off+n then x.cells[j - off]? else v.cells[j]?:=by
 unfold V.upd at h;split at h
 ·rename_i hc;obtain ⟨h1,h2⟩:=hc;refine ⟨h1,h2,?_⟩;split at h
  ·rename_i hc;obtain ⟨rfl,rfl⟩:=hc;cases h;unfold V.size at h1;refine ⟨by simp[V.size],h1,fun j=>?_⟩;by_cases hj:j<v.size
   ·rw[if_pos (by omega)];simp
   ·rw[if_neg (by omega),qur (by unfold V.size at hj;omega),qur (by unfold V.size at hj;omega)]
  ·split at h
   ·rename_i cs _;split at h
    ·rename_i hle;cases h;have hx:x.cells.length=n:=h1;have e1:(V.agg (cs.take off++x.cells++cs.drop (off+n))).cells=cs.take off++x.cells++cs.drop (off+n):=rfl;have e2:(V.agg cs).cells=cs:=rfl;rw[e1,e2] at *;generalize x.cells=xc at *;refine ⟨hle,by simp;omega,fun j=>?_⟩;by_cases h1:j<off
     ·rw[if_neg (by omega),qt1,qtD (by simp;omega),qt9 h1]
     ·by_cases h2:j<off+n
      ·rw[if_pos (by omega),qt1,qtC (by simp;omega),qtD (by simp;omega)];congr 1;simp;omega
      ·rw[if_neg (by omega),qtC (by simp;omega),qun];congr 1;simp;omega
    ·cases h
   ·cases h
 ·cases h
theorem qa2{x:V}(h:x.cells.all V.flat=true):x≠.top:=by
 rintro rfl;simp[V.cells,V.flat] at h
theorem qj6{E:En}{x:V}{u:Value}(h:VR E x u)(hf:x.cells.all V.flat=true):∀c,c∈u.cells.toList→Value.flat c=true:=by
 intro c hc;obtain ⟨h1,h2⟩:=h.cells (qa2 hf);obtain ⟨i,hi,he⟩:=quI hc;have hi':i<x.cells.length:=by simp at hi;omega
 have:=h2 i x.cells[i] c (by simp) (by rw[←he];simp at hi;simp);exact this.flat (by simp at hf;exact hf _ (qtM hi'))
theorem qhp{E:En}{P:Program}{w:World}{b o:Nat}{C:Array Value}{t T:TypeId}{i:TypeInfo}{x:V}{u:Value}(hi:P.info? t=some i)(h:w.heap[b]?=some (.cells C T (0,0)))
  (hx:VR E x u) (hf:x.cells.all V.flat=true) (hn:x.size=i.size) (ho:o+i.size≤C.size):
  (storeVar t ⟨b,o,none⟩ u).run P w=.ok () (World.put w b (over C o u.cells.toList) T):=by
 obtain ⟨h1,h2⟩:=hx.cells (qa2 hf);have hs:u.cells.size=i.size:=by rw[←hn,V.size,h1]
 simp only[storeVar,Sem.run_bind,qa0 hi,Result.andThen,hs,ne_eq,not_true_eq_false,if_false];rw[qcB u.cells.toList 0 w C h (by simp;omega) (qj6 hx hf)];simp
theorem qlw{E:En}{S S':St}{P:Program}{w:World}{p x:V}{u d:Value}{t:TypeId}{i:TypeInfo}(hs:SR E S w)(hp:VR E p u)(hx:VR E x d)(hi:P.info? t=some i)(h:stS S p i.size x=some S'):
  ∃w',(Instr.storeAt t u d).run P w=.ok () w'∧SR E S' w'∧Ext S.length E S w E S' w'∧S.length≤S'.length:=by
 cases hp with
 | ptr ix off hr=>
  rename_i l st y;simp only[stS] at h;split at h
  ·rename_i xs sz wr ho;split at h
   ·rename_i hst
    cases hv:xs[ix]? with
    | none=>rw[hv] at h;cases h
    | some v=>
     rw[hv] at h;simp only[qtT] at h
     cases hu:v.upd off i.size x with
     | none=>rw[hu] at h;cases h
     | some v'=>
      rw[hu] at h;cases h;obtain ⟨u1,u2,u3,u4,u5⟩:=qiN hu;have hob:=hs.obs l _ ho;obtain ⟨h0,h1,h2⟩:=hob;have hlt:=(qtB.1 hv).1;have hwr:wr≤st:=by omega
      obtain ⟨h3,h4,C,T,h5,h6,h7,h8⟩:=h2 st y hr hwr;have hvs:v.cells.length=y.sz:=by rw[h4];exact h1 v (qtP hv)
      have hmul:(ix+1) * y.sz≤xs.length * y.sz:=qut _ (by omega);have hmul':(ix+1) * y.sz=ix * y.sz+y.sz:=by rw[quq];omega
      have hfit:ix * y.sz+off+i.size≤C.size:=by rw[hst] at h7;omega
      have hb:y.b<w.heap.size:=(qtS.1 h5).1;have hrun:=qhp (P:=P) (o:=ix * y.sz+off) hi h5 hx u2 u1 hfit;have hc:=hx.cells (qa2 u2);refine ⟨_,by simp only[Instr.storeAt,Instr.sureAddr,Sem.run_bind,Sem.run_pure,Result.andThen];exact hrun,?_⟩;have hlive:live S l:=⟨_,ho,by simp⟩;have hsz:d.cells.toList.length=i.size:=by simp;rw[←hc.1];exact u1
      have hnew:OR E (World.put w y.b (over C (ix * y.sz+off) d.cells.toList) T) l (.arr (xs.set ix v') sz st):=by
       refine ⟨⟨h0.1,by simp;omega⟩,fun z hz=>?_,fun st' y' hy' hst'=>?_⟩
       ·rcases List.mem_or_eq_of_mem_set hz with hz|rfl
        ·exact h1 z hz
        ·rw[u4];exact h1 v (qtP hv)
       ·obtain ⟨g3,g4,_⟩:=h2 st' y' hy' (by omega);have:st'=st:=by omega
        subst this;rw[hr] at hy';cases hy';refine ⟨by simp;omega,h4,_,T,qe0 hb,by rw[qcH];exact h6,h7,fun k z hz hk j c hcj=>?_⟩;rw[qcW _ _ _ _ (by rw[hsz];exact hfit),hsz]
        have hzs:z.cells.length=y.sz:=by
         rw[h4];rcases List.mem_or_eq_of_mem_set (qtP hz) with hz|rfl
         ·exact h1 z hz
         ·rw[u4];exact h1 v (qtP hv)
        have hj:j<y.sz:=by rw[←hzs];exact (qtB.1 hcj).1
        by_cases hkx:k=ix
        ·subst hkx;rw[qtE hlt] at hz;cases hz;rw[u5] at hcj;by_cases hin:off≤j∧j<off+i.size
         ·rw[if_pos hin] at hcj;rw[if_pos (by omega)];obtain ⟨e,he,hre⟩:=hx.cells_ex (qa2 u2) hcj;exact ⟨e,by rw[show k * y.sz+j - (k * y.sz+off)=j - off by omega];simpa using he,hre⟩
         ·rw[if_neg hin] at hcj;rw[if_neg (by omega)];exact h8 k v hv hk j c hcj
        ·rw[qtG (Ne.symm hkx)] at hz
         have hout:¬ (ix * y.sz+off≤k * y.sz+j∧k * y.sz+j<ix * y.sz+off+i.size):=by
          have hoff:off+i.size≤y.sz:=by omega
          rcases qva k ix with hlt'|hge
          ·have:(k+1) * y.sz≤ix * y.sz:=qut _ hlt';rw[quq] at this;omega
          ·have:(ix+1) * y.sz≤k * y.sz:=qut _ (by omega);rw[quq] at this;omega
         rw[if_neg hout];exact h8 k z hz hk j c hcj
      have:=hs.change (E':=E) (w':=World.put w y.b (over C (ix * y.sz+off) d.cells.toList) T) hlive rfl (En.le_refl E) (fun _ _ _=>rfl) (fun s z hz=>.inl ⟨s,z,hz,rfl⟩) (by rw[qiE];exact qtH _)
       (fun b _ hno=>qff (fun e=>hno _ _ hr e.symm)) rfl hnew
      exact ⟨this.1,this.2,by simp⟩
   ·cases h
  ·cases h
 | _=>simp[stS] at h
def Sim(P:Program)(E:En)(S:St)(w:World)(s:Sem Value)(r:V)(S':St):Prop:=
 ∃d E' w',s.run P w=.ok d w'∧VR E' r d∧SR E' S' w'∧Ext S.length E S w E' S' w'∧S.length≤S'.length
theorem Sim.pure{P:Program}{E:En}{S:St}{w:World}{s:Sem Value}{r:V}{d:Value}(hs:SR E S w)(h:s.run P w=.ok d w)(hr:VR E r d):Sim P E S w s r S:=
 ⟨d,E,w,h,hr,hs,Ext.refl _ _ _ _,qtH _⟩
theorem qbY{P:Program}{w:World}{t:TypeId}{C:Array Value}:(newRow t C).run P w=.ok ⟨w.heap.size,0,none⟩ { w with heap:=w.heap.push (.cells C t (0,0)) }:=by
 simp[newRow,newObj,Sem.run,Result.andThen]
def boxS(S:St)(x:V):Option (V×St):=if (x.cells.all V.flat)=true∧0<x.size then some (.ptr S.length 0 0 1,S++[.arr [x] x.size 1]) else none
theorem qkO{E:En}{S S':St}{P:Program}{w:World}{x r:V}{d:Value}{t:TypeId}(hs:SR E S w)(hx:VR E x d)(h:boxS S x=some (r,S')):Sim P E S w (Instr.box t d) r S':=by
 unfold boxS at h;split at h
 ·rename_i hc;obtain ⟨hf,h0⟩:=hc;cases h;obtain ⟨h1,h2⟩:=hx.cells (qa2 hf)
  have hno:E.ρ S.length 1=none:=by
   cases hr:E.ρ S.length 1 with
   | none=>rfl
   | some y=>exact absurd (hs.dom _ _ _ hr) (by omega)
  obtain ⟨n1,n2⟩:=hs.new (o:=.cells d.cells t (0,0)) (ob:=.arr [x] x.size 1) (st:=1) (N:=d.cells.size) (sz:=x.size) (by
   refine ⟨⟨h0,by simp⟩,fun v hv=>?_,fun st y hy hst=>?_⟩
   ·simp at hv;subst hv;rfl
   ·by_cases hs1:st=1
    ·subst hs1;rw[qa8] at hy;cases hy;refine ⟨by simp,rfl,d.cells,t,qcT,rfl,by simp[V.size,h1],fun i v hv hi j c hc=>?_⟩;have hi0:i=0:=by omega
     subst hi0;simp at hv;subst hv;obtain ⟨e,he,hr⟩:=hx.cells_ex (qa2 hf) hc;exact ⟨e,by simpa using he,hr.mono (qfp hno)⟩
    ·exfalso;simp only[En.at] at hy;rw[if_neg (by simp;exact hs1)] at hy;exact absurd (hs.dom _ _ _ hy) (by omega))
  refine ⟨.pointer (some ⟨w.heap.size,0,none⟩),_,_,?_,?_,n1,n2,by simp⟩
  ·simp only[Instr.box,newVar,Sem.run_bind,qbY,Result.andThen,Sem.run_pure]
  ·have:=VR.ptr (E:=E.at S.length 1 ⟨w.heap.size,d.cells.size,x.size⟩) (l:=S.length) (st:=1) 0 0 qa8;simpa using this
 ·cases h
theorem qaW{P:Program}{t:TypeId}{i:TypeInfo}{z:Value}{w:World}(h:P.info? t=some i)(hz:i.zero=some z):(zeroValue t).run P w=.ok z w:=by
 simp[zeroValue,Sem.run_bind,qcz h,Result.andThen,hz,Sem.run_pure]
theorem qmx{E:En}{S S':St}{P:Program}{w:World}{x r:V}{z o:Value}{t:TypeId}{i:TypeInfo}(hi:P.info? t=some i)(hz:i.zero=some z)(hs:SR E S w)(hx:VR E x z)(h:boxS S x=some (r,S')):
  Sim P E S w (Instr.alloc t true o) r S':=by
 obtain ⟨d,E',w',h1,h2⟩:=qkO (P:=P) (t:=t) hs hx h;refine ⟨d,E',w',?_,h2⟩;rw[←h1];simp[Instr.alloc,Instr.box,Sem.run_bind,qaW hi hz,Result.andThen]
def faV(p:V)(off:Nat):Option V:=
 match p with
 | .ptr l i o st=>some (.ptr l i (o+off) st)
 | .iptr v o=>some (.iptr v (o+off))
 | .glob g o=>some (.glob g (o+off))
 | _=>none
theorem VR.fa{E:En}{p r:V}{u:Value}{off:Nat}(hp:VR E p u)(h:faV p off=some r):∃b o,u=.pointer (some ⟨b,o,none⟩)∧VR E r (.pointer (some ⟨b,o+off,none⟩)):=by
 cases hp with
 | glob g o=>cases h;exact ⟨_,_,rfl,.glob g (o+off)⟩
 | ptr i o hr=>
  cases h;exact ⟨_,_,rfl,by have:=VR.ptr i (o+off) hr;rw[←quu] at this;exact this⟩
 | iptr o hI hv=>
  cases h;exact ⟨_,_,rfl,by have:=VR.iptr (o+off) hI hv;rw[←quu] at this;exact this⟩
 | _=>simp[faV] at h
def qhc(P:Program)(t:TypeId)(f:Nat):Option Nat:=
 match P.underlying t with
 | some (.struct fs)=>match fs[f]? with
  | some x=>match P.info? x.type with
   | some i=>if i.size=0 then none else some x.offset
   | none=>none
  | none=>none
 | _=>none
theorem qr6{E:En}{S:St}{P:Program}{w:World}{p r:V}{u:Value}{t:TypeId}{f off:Nat}(hs:SR E S w)(hp:VR E p u)(ho:qhc P t f=some off)(h:faV p off=some r):Sim P E S w (Instr.fieldAt t u f) r S:=by
 obtain ⟨b,o,rfl,hr⟩:=hp.fa h;unfold qhc at ho;split at ho <;> try cases ho
 rename_i fs hu;split at ho <;> try cases ho
 rename_i x hx;split at ho <;> try cases ho
 rename_i i hi;split at ho <;> try cases ho
 rename_i hz;refine Sim.pure hs ?_ hr;simp only[Instr.fieldAt,Sem.run_bind,qad hu,Result.andThen,hx,Instr.sureAddr,Sem.run_pure,fieldPlace,qa0 hi,hz,if_false,qbF]
def iaS(S:St)(sz:Nat)(p:V)(ix:Int):Option V:=
 match p with
 | .sl _ xs=>if 0≤ix then match xs[ix.toNat]? with
   | some v=>if v.size=sz then some (.iptr v 0) else none
   | none=>none
  else none
 | .arr l off len st=>match S[l]? with
  | some (.arr _ s wr)=>if wr≤st∧s=sz∧0≤ix∧ix<len then some (.ptr l (off+ix.toNat) 0 st) else none
  | _=>none
 | _=>none
def qcZ(P:Program)(t:TypeId):Option Nat:=
 match P.underlying t with
 | some (.slice e)=>(P.info? e).map fun i=>i.size
 | _=>none
theorem qr8{E:En}{S:St}{P:Program}{w:World}{p r:V}{u:Value}{t:TypeId}{k:IntKind}{sz:Nat}{ix:Int}(hs:SR E S w)(hp:VR E p u)(ho:qcZ P t=some sz)(h:iaS S sz p ix=some r):
  Sim P E S w (Instr.indexAt t u (.int k ix)) r S:=by
 unfold qcZ at ho;split at ho <;> try cases ho
 rename_i e hu
 cases hi:P.info? e with
 | none=>rw[hi] at ho;cases ho
 | some i=>
  rw[hi] at ho;cases ho
  have run:∀(b o len cap:Nat),0≤ix→ix<len→(Instr.indexAt t (.slice (some ⟨b,o,none⟩) len cap) (.int k ix)).run P w=.ok (.pointer (some ⟨b,o+ix.toNat * i.size,none⟩)) w:=by
   intro b o len cap h0 h1;simp only[Instr.indexAt,asIntOf,Sem.run_bind,Sem.run_pure,Result.andThen,qad hu];by_cases hl:len≤1
   ·simp[qad hu,Result.andThen,h0,h1,qa0 hi,qbF]
   ·simp[Result.andThen,h0,h1,qa0 hi,qbF]
  cases hp with
  | slnil x=>simp[iaS] at h
  | slz x a=>simp[iaS] at h
  | sl hc hx hss hI hv=>
   rename_i x xs b o cap sz';simp only[iaS] at h;split at h <;> try cases h
   rename_i h0;split at h <;> try cases h
   rename_i v hxs;split at h <;> try cases h
   rename_i hsz;have hlt:=(qtB.1 hxs).1;have he:=hss v (qtP hxs);have hsz':i.size=sz':=by rw[←hsz,V.size,he]
   refine Sim.pure hs (run b o _ cap h0 (by omega)) ?_;rw[hsz'];have:=VR.iptr (E:=E) (v:=v) (b:=b) (o:=o+ix.toNat * sz') 0 (fun j hj=>hI ix.toNat j hlt (by omega)) (fun j c' c hc hi'=>hv ix.toNat v j c' c hxs hc hi');simpa using this
  | arr hr hN hc=>
   rename_i l off len cap st x;simp only[iaS] at h;split at h <;> try cases h
   rename_i ys s wr hob;split at h <;> try cases h
   rename_i hc';obtain ⟨c1,c2,c3,c4⟩:=hc';have hsz:=((hs.obs l _ hob).2.2 st x hr c1).2.1;refine Sim.pure hs (run _ _ _ cap c3 c4) ?_;have:=VR.ptr (off+ix.toNat) 0 hr;rw[←c2,←hsz,←quq];simpa using this
  | _=>simp[iaS] at h
def elems(S:St)(v:V):Option (List V):=
 match v with
 | .sl _ xs=>some xs
 | .arr l off len st=>match S[l]? with
  | some (.arr xs _ wr)=>if wr≤st∧off+len≤st then some ((xs.drop off).take len) else none
  | _=>none
 | _=>none
def qbR(xs:List V):List V:=xs.flatMap V.cells
theorem qd1{xs:List V}{sz:Nat}(hs:∀v,v∈xs→v.cells.length=sz):∀{i j:Nat} {v:V},xs[i]?=some v→j<sz→(qbR xs)[i * sz+j]?=v.cells[j]?:=by
 induction xs with
 | nil=>intro i j v h;simp at h
 | cons y ys ih=>
  intro i j v h hj;have hy:y.cells.length=sz:=hs y (by simp);simp only[qbR,quz]
  cases i with
  | zero=>
   simp at h;subst h;rw[Nat.zero_mul,quJ,qtD (by omega)]
  | succ i=>
   simp at h;rw[Nat.succ_mul,qtC (by omega),hy,show i * sz+sz+j - sz=i * sz+j by omega];exact ih (fun v hv=>hs v (by simp[hv])) h hj
theorem qaU{xs:List V}{sz:Nat}(hs:∀v,v∈xs→v.cells.length=sz):(qbR xs).length=xs.length * sz:=by
 induction xs with
 | nil=>simp[qbR]
 | cons y ys ih=>
  have hy:y.cells.length=sz:=hs y (by simp);have:=ih (fun v hv=>hs v (by simp[hv]));simp only[qbR,quz,qtZ,que] at *;rw[this,hy,Nat.succ_mul,Nat.add_comm]
theorem qfB{xs:List V}{sz:Nat}(hs:∀v,v∈xs→v.cells.length=sz)(h0:0<sz){k:Nat}{c:V}(h:(qbR xs)[k]?=some c):∃v,xs[k / sz]?=some v∧v.cells[k % sz]?=some c:=by
 have hk:=(qtB.1 h).1;rw[qaU hs] at hk;have hi:k / sz<xs.length:=Nat.div_lt_of_lt_mul (by rw[Nat.mul_comm];exact hk);refine ⟨xs[k / sz],by simp[hi],?_⟩;rw[←qd1 hs (i:=k / sz) (j:=k % sz) (by simp[hi]) (Nat.mod_lt _ h0),show k / sz * sz+k % sz=k by rw[Nat.mul_comm];exact Nat.div_add_mod k sz];exact h
theorem qbi{E:En}{S:St}{P:Program}{w:World}{v:V}{u:Value}{xs:List V}{sz:Nat}(hs:SR E S w)(hv:VR E v u)(he:elems S v=some xs)(hsz:∀x,x∈xs→x.size=sz)(h0:0<sz):
  ∃(a:Option Addr) (cap:Nat) (us:Array Value),u=.slice a xs.length cap∧(Builtin.firstCells sz xs.length u).run P w=.ok us w∧VR E (.agg (qbR xs)) (.agg us):=by
 have hlen:=qaU (xs:=xs) (sz:=sz) hsz
 cases hv with
 | slnil x=>
  cases he;exact ⟨none,0,#[],rfl,by simp[Builtin.firstCells],.agg rfl (fun i v u h _=>by simp[qbR] at h)⟩
 | slz x a=>
  cases he;exact ⟨some a,0,#[],rfl,by simp[Builtin.firstCells,loadCells,loadCellsFrom],.agg rfl (fun i v u h _=>by simp[qbR] at h)⟩
 | sl hc hx hss hI hvv=>
  rename_i x b o cap sz';cases he;by_cases hnil:xs=[]
  ·subst hnil;obtain ⟨us,h1,h2⟩:=qeH (E:=E) (P:=P) (w:=w) (b:=b) (o:=o) (n:=0) (cs:=[]) rfl (fun j c hc=>by simp at hc);exact ⟨_,_,us,rfl,by simpa[Builtin.firstCells] using h1,h2⟩
  ·have hz:sz'=sz:=by
    obtain ⟨y,ys,rfl⟩:=List.exists_cons_of_ne_nil hnil;rw[←hss y (by simp)];exact hsz y (by simp)
   subst hz
   obtain ⟨us,h1,h2⟩:=qeH (E:=E) (P:=P) (w:=w) (b:=b) (o:=o) (n:=xs.length * sz') (cs:=qbR xs) hlen (fun k c hc=>by
    obtain ⟨v,hv1,hv2⟩:=qfB hsz h0 hc;have hi:=(qtB.1 hv1).1;have hj:=Nat.mod_lt k h0;obtain ⟨d,hd⟩:=qu8.1 (hI (k / sz') (k % sz') hi hj);have e:o+k / sz' * sz'+k % sz'=o+k:=by rw[quu];congr 1;rw[Nat.mul_comm];exact Nat.div_add_mod k sz'
    refine ⟨d,?_,hvv _ v _ c d hv1 hv2 hd⟩;rw[←e];exact hs.I _ _ _ hd)
   exact ⟨_,_,us,rfl,by simpa[Builtin.firstCells] using h1,h2⟩
 | arr hr hN hc=>
  rename_i l off len cap st x;simp only[elems] at he;split at he <;> try cases he
  rename_i ys s wr hob;split at he <;> try cases he
  rename_i hc';obtain ⟨c1,c2⟩:=hc';have hob':=hs.obs l _ hob;obtain ⟨g1,g2,C,T,g3,g4,g5,g6⟩:=hob'.2.2 st x hr c1;have hl:((ys.drop off).take len).length=len:=by simp;omega
  rw[hl];by_cases hnil:len=0
  ·subst hnil;obtain ⟨us,h1,h2⟩:=qeH (E:=E) (P:=P) (w:=w) (b:=x.b) (o:=off * x.sz) (n:=0) (cs:=[]) rfl (fun j c hc=>by simp at hc);refine ⟨_,_,us,rfl,by simpa[Builtin.firstCells] using h1,?_⟩;simpa[qbR] using h2
  ·have hz:x.sz=sz:=by
    rw[g2]
    have hm:ys[off]'(by omega)∈(ys.drop off).take len:=by
     have:((ys.drop off).take len)[0]?=some (ys[off]'(by omega)):=by
      rw[qt9 (by omega),qun];simp
     exact qtP this
    rw[←hsz _ hm];exact (hob'.2.1 _ (qtM _)).symm
   obtain ⟨us,h1,h2⟩:=qeH (E:=E) (P:=P) (w:=w) (b:=x.b) (o:=off * x.sz) (n:=len * sz) (cs:=qbR ((ys.drop off).take len)) (by rw[hlen,hl]) (fun k c hc=>by
    obtain ⟨v,hv1,hv2⟩:=qfB hsz h0 hc;have hi:k / sz<len:=by have:=(qtB.1 hv1).1;omega
    rw[qt9 hi,qun] at hv1;obtain ⟨d,hd,hr'⟩:=g6 (off+k / sz) v hv1 (by omega) (k % sz) c hv2;refine ⟨d,?_,hr'⟩;rw[cell?_of g3,←hd];congr 1;rw[hz,quq,quu];congr 1;rw[Nat.mul_comm (k / sz)];exact (Nat.div_add_mod k sz).symm)
   exact ⟨_,_,us,rfl,by simpa[Builtin.firstCells] using h1,h2⟩
 | _=>simp[elems] at he
theorem qhP:∀(r need c:Nat),c<2 * need→256≤c→Builtin.growBy need r c<2 * need
 | 0,need,c,h,_=>by simpa[Builtin.growBy] using h
 | r+1,need,c,h,hc=>by
  simp only[Builtin.growBy];split
  ·exact h
  ·exact qhP r need _ (by omega) (by omega)
theorem qkk{need cap:Nat}(h:cap<need):Builtin.nextslicecap need cap≤2 * need:=by
 unfold Builtin.nextslicecap;split
 ·omega
 ·split
  ·omega
  ·exact Nat.le_of_lt (qhP _ _ _ (by omega) (by omega))
structure AppTy(P:Program)(ts:Array TypeId)(sz bytes:Nat):Prop where
 h:∃sT xT e e' i z,ts[0]?=some sT∧ts[1]?=some xT∧P.underlying sT=some (.slice e)∧P.underlying xT=some (.slice e')∧P.info? e=some i∧i.size=sz∧i.bytes=bytes∧i.zero=some z∧z.cells.size=sz∧0<sz∧0<bytes
def qlB(P:Program)(ts:Array TypeId):Option (Nat×Nat):=
 match ts[0]?,ts[1]? with
 | some sT,some xT=>match P.underlying sT,P.underlying xT with
  | some (.slice e),some (.slice _)=>match P.info? e with
   | some i=>match i.zero with
    | some z=>if z.cells.size=i.size∧0<i.size∧0<i.bytes then some (i.size,i.bytes) else none
    | none=>none
   | none=>none
  | _,_=>none
 | _,_=>none
theorem qki{P:Program}{ts:Array TypeId}{sz bytes:Nat}(h:qlB P ts=some (sz,bytes)):AppTy P ts sz bytes:=by
 unfold qlB at h;split at h <;> try cases h
 rename_i sT xT h1 h2;split at h <;> try cases h
 rename_i e e' h3 h4;split at h <;> try cases h
 rename_i i h5;split at h <;> try cases h
 rename_i z h6;split at h <;> try cases h
 rename_i hc;exact ⟨sT,xT,e,e',i,z,h1,h2,h3,h4,h5,rfl,rfl,h6,hc.1,hc.2.1,hc.2.2⟩
theorem qfZ(z:Array Value)(n:Nat):(Builtin.zeroCells z n).size=n * z.size:=by simp[Builtin.zeroCells]
theorem qfM{P:Program}{ts:Array TypeId}{T:TypeId}{sz bytes len cap:Nat}{w:World}{base a:Option Addr}{c:Nat}(ht:AppTy P ts sz bytes)(hcap:len≤cap):
  (Builtin.append_ ts T #[.slice base len cap,.slice a 0 c]).run P w=.ok (.slice base len cap) w:=by
 obtain ⟨sT,xT,e,e',i,z,h1,h2,h3,h4,h5,rfl,rfl,h6,h7,h8,h9⟩:=ht.h
 have hf:(Builtin.firstCells i.size 0 (.slice a 0 c)).run P w=.ok #[] w:=by
  cases a with
  | none=>simp[Builtin.firstCells]
  | some b=>simp[Builtin.firstCells,loadCells,loadCellsFrom]
 simp only[Builtin.append_,h1,h2,Builtin.lenOf];simp only[qvd,quL,quM,Sem.run_bind,qad h3,qad h4,qa0 h5,Result.andThen,Sem.run_pure,hf,qvt,hcap,if_true,qua,if_false,Bool.not_false];cases base <;> simp[storeCells,Result.andThen]
theorem qgH{P:Program}{ts:Array TypeId}{T t:TypeId}{sz bytes len cap n c b o:Nat}{w:World}{a:Option Addr}{new C:Array Value}(ht:AppTy P ts sz bytes)(hcap:len+n≤cap)
  (hn:(Builtin.firstCells sz n (.slice a n c)).run P w=.ok new w) (hb:w.heap[b]?=some (.cells C t (0,0))) (hfit:o+len * sz+new.size≤C.size) (hf:∀u,u∈new.toList→Value.flat u=true):
  (Builtin.append_ ts T #[.slice (some ⟨b,o,none⟩) len cap,.slice a n c]).run P w=.ok (.slice (some ⟨b,o,none⟩) (len+n) cap) (World.put w b (over C (o+len * sz) new.toList) t):=by
 obtain ⟨sT,xT,e,e',i,z,h1,h2,h3,h4,h5,rfl,rfl,h6,h7,h8,h9⟩:=ht.h;have hs:=qcB (P:=P) (b:=b) (o:=o+len * i.size) new.toList 0 w C hb (by simpa using hfit) hf;simp only[Builtin.append_,h1,h2,qvd,quL,quM,Sem.run_bind,qad h3,qad h4,qa0 h5,Result.andThen,Sem.run_pure,Builtin.lenOf,hn,hcap,if_true,qua,if_false,Bool.not_false,qbF,hs,qvt]
theorem qda{P:Program}{ts:Array TypeId}{T:TypeId}{sz bytes len cap n c:Nat}{w:World}{base a:Option Addr}{old new:Array Value}(ht:AppTy P ts sz bytes)(hcap:cap<len+n)(hroom:(len+n) * bytes≤2 ^ 47)
  (ho:(Builtin.firstCells sz len (.slice base len cap)).run P { w with drawn:=w.drawn+1 }=.ok old { w with drawn:=w.drawn+1 })
  (hn:(Builtin.firstCells sz n (.slice a n c)).run P { w with drawn:=w.drawn+1 }=.ok new { w with drawn:=w.drawn+1 }):
  ∃(newCap:Nat) (rest:Array Value) (t:TypeId),len+n≤newCap∧rest.size=(newCap - (len+n)) * sz∧
   (Builtin.append_ ts T #[.slice base len cap,.slice a n c]).run P w=.ok (.slice (some ⟨w.heap.size,0,none⟩) (len+n) newCap) { w with drawn:=w.drawn+1,heap:=w.heap.push (.cells (old++new++rest) t (0,0)) }:=by
 obtain ⟨sT,xT,e,e',i,z,h1,h2,h3,h4,h5,rfl,rfl,h6,h7,h8,h9⟩:=ht.h;have hnc:=qkk hcap
 have hle:¬ Builtin.nextslicecap (len+n) cap * i.bytes > 2 ^ 48:=by
  have:Builtin.nextslicecap (len+n) cap * i.bytes≤2 * (len+n) * i.bytes:=qut _ hnc;rw[Nat.mul_assoc] at this;omega
 have hnot:¬ (len+n≤cap):=by omega
 let q:=Question.appendCap (len+n) cap e
 let newCap:=q.cut (w.tape w.drawn q)
 have hch:(choose (.appendCap (len+n) cap e)).run P w=.ok newCap { w with drawn:=w.drawn+1 }:=by
  simp[choose,Sem.run,Question.forced,newCap,q]
 have hnew:len+n≤newCap:=by
  simp only[newCap,q,Question.cut];omega
 refine ⟨newCap,Builtin.zeroCells z.cells (newCap - (len+n)),e,hnew,by rw[qfZ,h7],?_⟩
 have hask:∀(k:Nat) (v:World),(askRoom k).run P v=.ok () v:=fun k v=>by
  unfold askRoom;split <;> simp[mark,Sem.run,Sem.run_pure]
 have hbig:¬ ((((len+n:Nat):Int) > IntKind.i64.max)∧(False∨i.bytes=0)):=by
  rintro ⟨_,h|h⟩
  ·exact h
  ·omega
 simp only[Builtin.append_,h1,h2,qvd,quL,quM,Sem.run_bind,qad h3,qad h4,qa0 h5,qcz h5,Result.andThen,Sem.run_pure,Builtin.lenOf,hnot,if_false,qua,Bool.not_false,if_true,hle,hch,hask,ho,hn,qaW h5 h6,qbY];rw[if_neg hbig];simp only[Sem.run_bind,qcz h5,Result.andThen,hle,if_false,Sem.run_pure,hch,hask,ho,hn,qaW h5 h6,qbY]
def fits(sz:Nat)(ys:List V):Bool:=ys.all fun y=>y.size==sz && y.cells.all V.flat
theorem qcr{sz:Nat}{ys:List V}(h:fits sz ys=true):∀y,y∈ys→y.size=sz:=fun y hy=>by
 simp only[fits,qtY,qtJ,beq_iff_eq] at h;exact (h y hy).1
theorem qme{sz:Nat}{ys:List V}(h:fits sz ys=true):∀c,c∈qbR ys→c.flat=true:=fun c hc=>by
 simp only[fits,qtY,qtJ,beq_iff_eq] at h;obtain ⟨y,hy,hc⟩:=List.mem_flatMap.1 hc;exact (h y hy).2 c hc
def appS(S:St)(sz bytes:Nat)(d x:V):Option (V×St):=
 match elems S x with
 | none=>none
 | some ys=>match d with
  | .sl e xs=>if ys.isEmpty then some (d,S) else
   if e=true∧fits sz ys=true∧(xs.all fun v=>v.size==sz)=true∧(xs.length+ys.length) * bytes≤2 ^ 47 then
    some (.arr S.length 0 (xs.length+ys.length) (xs.length+ys.length),S++[.arr (xs++ys) sz (xs.length+ys.length)]) else none
  | .arr l off len st=>match S[l]? with
   | some (.arr zs s wr)=>if off=0∧len=zs.length∧st=zs.length∧s=sz∧fits sz ys=true∧(zs.length+ys.length) * bytes≤2 ^ 47 then
     some (.arr l 0 (zs.length+ys.length) (zs.length+ys.length),S.set l (.arr (zs++ys) sz wr)) else none
   | _=>none
  | _=>none
theorem qca{E:En}{cs:List V}{us:Array Value}(h:VR E (.agg cs) (.agg us)):cs.length=us.size∧∀(i:Nat) (c:V),cs[i]?=some c→∃d,us[i]?=some d∧VR E c d:=by
 cases h with
 | agg h g=>exact ⟨h,fun i c hc=>by
  have hi:i<us.size:=by rw[←h];exact (qtB.1 hc).1
  exact ⟨us[i],by simp[hi],g i c _ hc (by simp[hi])⟩⟩
theorem qeT(xs ys:List V):qbR (xs++ys)=qbR xs++qbR ys:=by simp[qbR]
theorem qhe{E:En}{w:World}{xs ys:List V}{sz:Nat}{old new rest:Array Value}{b:Nat}{t:TypeId}(h0:0<sz)(hx:∀v,v∈xs→v.size=sz)(hy:∀v,v∈ys→v.size=sz)
  (ho:VR E (.agg (qbR xs)) (.agg old)) (hn:VR E (.agg (qbR ys)) (.agg new)) (hb:w.heap[b]?=some (.cells (old++new++rest) t (0,0))):
  qh9 E w ⟨b,(old++new++rest).size,sz⟩ (xs++ys) (xs.length+ys.length):=by
 obtain ⟨o1,o2⟩:=qca ho;obtain ⟨n1,n2⟩:=qca hn
 have hxy:∀v,v∈xs++ys→v.cells.length=sz:=fun v hv=>by
  rcases quh.1 hv with hv|hv
  ·exact hx v hv
  ·exact hy v hv
 have lx:=qaU (xs:=xs) (sz:=sz) hx;have ly:=qaU (xs:=ys) (sz:=sz) hy;refine ⟨_,t,hb,rfl,?_,fun i v hv hi j c hc=>?_⟩
 ·simp only[Array.size_append];rw[←o1,←n1,lx,ly,quq];omega
 ·show ∃e,(old++new++rest)[i * sz+j]?=some e∧VR E c e
  have hj:j<sz:=by
   have:=(qtB.1 hc).1;rw[hxy v (qtP hv)] at this;exact this
  have hf:=qd1 hxy hv hj;rw[hc,qeT] at hf;by_cases hk:i * sz+j<(qbR xs).length
  ·rw[qtD hk] at hf;obtain ⟨d,hd,hr⟩:=o2 _ _ hf;refine ⟨d,?_,hr⟩;rw[Array.append_assoc,quy (by omega)];exact hd
  ·rw[qtC (by omega)] at hf;obtain ⟨d,hd,hr⟩:=n2 _ _ hf;have hlt:=(qtS.1 hd).1;refine ⟨d,?_,hr⟩;rw[Array.append_assoc,quT (by omega),quy (by omega),←hd];congr 1;omega
theorem qsK{E:En}{l st:Nat}{x:Blk}(h:∀y,E.ρ l st=some y→y=x):E.le (E.at l st x):=
 ⟨fun _ _ _ h=>h,fun l' st' y hy=>by
  by_cases hk:l'=l∧st'=st
  ·obtain ⟨rfl,rfl⟩:=hk;rw[h y hy];simp[En.at]
  ·simp[En.at,hk];exact hy⟩
theorem qkf{E:En}{S S':St}{P:Program}{w:World}{d x r:V}{u a:Value}{ts:Array TypeId}{T:TypeId}{sz bytes:Nat}(hs:SR E S w)(ht:AppTy P ts sz bytes)(hd:VR E d u)(hx:VR E x a)(h:appS S sz bytes d x=some (r,S')):
  Sim P E S w (Builtin.append_ ts T #[u,a]) r S':=by
 have h0:0<sz:=by obtain ⟨_,_,_,_,_,_,_,_,_,_,_,_,_,_,_,h,_⟩:=ht.h;exact h
 unfold appS at h;split at h <;> try cases h
 rename_i ys hel;have hs1:SR E S { w with drawn:=w.drawn+1 }:=hs.heap rfl;split at h
 ·rename_i e xs;split at h
  ·rename_i hemp;cases h;have hy0:ys=[]:=by simpa using hemp
   subst hy0;obtain ⟨b,c,us,rfl,_,_⟩:=qbi (P:=P) (sz:=sz) hs hx hel (by simp) h0
   have hcap:∃base cap,u=.slice base xs.length cap∧xs.length≤cap:=by
    cases hd with
    | slnil x=>exact ⟨none,0,rfl,by simp⟩
    | slz x a=>exact ⟨some a,0,rfl,by simp⟩
    | sl hc=>exact ⟨_,_,rfl,hc⟩
   obtain ⟨base,cap,rfl,hc⟩:=hcap;exact Sim.pure hs (qfM ht hc) hd
  ·rename_i hemp;split at h <;> try cases h
   rename_i hc;obtain ⟨rfl,hf,hxs,hroom⟩:=hc;have hxs':∀v,v∈xs→v.size=sz:=fun v hv=>by simp only[qtY,beq_iff_eq] at hxs;exact hxs v hv
   have hys:=qcr hf
   have hne:0<ys.length:=by
    cases ys with
    | nil=>simp at hemp
    | cons y ys=>simp
   obtain ⟨b,c,us,rfl,hn,hn'⟩:=qbi (P:=P) (sz:=sz) hs1 hx hel hys h0;obtain ⟨b',c',us',rfl,ho,ho'⟩:=qbi (P:=P) (sz:=sz) hs1 hd (xs:=xs) rfl hxs' h0
   have hcap:c'<xs.length+ys.length:=by
    cases hd with
    | slnil x=>simp;exact hne
    | slz x a=>simp;exact hne
    | sl hc hx=>rw[hx rfl];omega
   obtain ⟨newCap,rest,t,hnc,hrest,hrun⟩:=qda (T:=T) ht hcap hroom ho hn
   have hno:∀st,E.ρ S.length st=none:=fun st=>by
    cases hr:E.ρ S.length st with
    | none=>rfl
    | some y=>exact absurd (hs.dom _ _ _ hr) (by omega)
   obtain ⟨n1,n2⟩:=hs1.new (o:=.cells (us'++us++rest) t (0,0)) (ob:=.arr (xs++ys) sz (xs.length+ys.length)) (st:=xs.length+ys.length) (N:=(us'++us++rest).size) (sz:=sz) (by
    refine ⟨⟨h0,by simp⟩,fun v hv=>?_,fun st y hy hst=>?_⟩
    ·rcases quh.1 hv with hv|hv
     ·exact hxs' v hv
     ·exact hys v hv
    ·by_cases hs1:st=xs.length+ys.length
     ·subst hs1;rw[qa8] at hy;cases hy;exact ⟨by simp,rfl,qhe h0 hxs' hys (ho'.mono (qfp (hno _))) (hn'.mono (qfp (hno _))) qcT⟩
     ·exfalso;simp only[En.at] at hy;rw[if_neg (by simp;exact hs1),hno] at hy;cases hy)
   refine ⟨_,_,_,hrun,?_,n1,(Ext.heap S.length (w:=w) (w':={ w with drawn:=w.drawn+1 }) rfl rfl).trans n2,by simp⟩;have hsz1:=(qca ho').1;have hsz2:=(qca hn').1;rw[qaU hxs'] at hsz1;rw[qaU hys] at hsz2
   have:=VR.arr (E:=E.at S.length (xs.length+ys.length) ⟨w.heap.size,(us'++us++rest).size,sz⟩) (l:=S.length) (off:=0) (len:=xs.length+ys.length) (cap:=newCap) (st:=xs.length+ys.length) qa8 (by
    simp only[Array.size_append];rw[←hsz1,←hsz2,hrest,←quq,←quq];exact qut _ (by omega)) hnc
   simpa using this
 ·rename_i l off len st;split at h <;> try cases h
  rename_i zs s wr hob;split at h <;> try cases h
  rename_i hc;obtain ⟨rfl,rfl,rfl,rfl,hf,hroom⟩:=hc;have hys:=qcr hf
  have hel0:elems S (.arr l 0 zs.length zs.length)=some zs:=by
   obtain ⟨⟨_,hw⟩,_⟩:=hs.obs l _ hob;simp[elems,hob,hw]
  obtain ⟨⟨_,hw⟩,hzs,hst⟩:=hs.obs l _ hob;have hlive:live S l:=⟨_,hob,by simp⟩
  cases hd with
  | arr hr hN hcc=>
   rename_i cap y;obtain ⟨_,hysz,C,t,g3,g4,g5,g6⟩:=hst _ y hr hw;have hlen:∀st' z,E.ρ l st'=some z→wr≤st'→st'≤zs.length:=fun st' z hz hwz=>(hst st' z hz hwz).1
   have hnone:ys≠[]→E.ρ l (zs.length+ys.length)=none:=fun hne=>by
    cases hr':E.ρ l (zs.length+ys.length) with
    | none=>rfl
    | some z=>
     have:=hlen _ z hr' (by omega);have:0<ys.length:=List.length_pos_iff.2 hne;omega
   by_cases hcap:zs.length+ys.length≤cap
   ·obtain ⟨b,c,us,rfl,hn,hn'⟩:=qbi (P:=P) (sz:=s) hs hx hel hys h0;have hus:=(qca hn').1;rw[qaU hys] at hus;have hb:y.b<w.heap.size:=(qtS.1 g3).1
    have hfit:0 * y.sz+zs.length * s+us.size≤C.size:=by
     rw[←hus,g4,hysz];have:(zs.length+ys.length) * s≤(0+cap) * y.sz:=by rw[hysz,quJ];exact qut _ hcap
     rw[quq] at this;omega
    have hflat:∀v,v∈us.toList→Value.flat v=true:=fun v hv=>by
     obtain ⟨i,hi,he⟩:=quI hv;simp at hi;have hi':i<(qbR ys).length:=by rw[qaU hys];omega
     obtain ⟨d,hd,hr⟩:=(qca hn').2 i (qbR ys)[i] (by simp[hi'])
     have:d=v:=by
      have e1:us[i]?=some us[i]:=by simp[hi]
      rw[e1] at hd;cases hd;rw[←he];simp
     subst this;exact hr.flat (qme hf _ (qtM hi'))
    have hrun:=qgH (T:=T) ht hcap hn g3 hfit hflat
    have hle:E.le (E.at l (zs.length+ys.length) y):=qsK fun z hz=>by
     by_cases hne:ys=[]
     ·subst hne;simp at hz;rw[hr] at hz;cases hz;rfl
     ·rw[hnone hne] at hz;cases hz
    have hnew:OR (E.at l (zs.length+ys.length) y) (World.put w y.b (over C (0 * y.sz+zs.length * s) us.toList) t) l (.arr (zs++ys) s wr):=by
     have hall:∀v,v∈zs++ys→v.cells.length=s:=fun v hv=>by
      rcases quh.1 hv with hv|hv
      ·exact hzs v hv
      ·exact hys v hv
     refine ⟨⟨h0,by simp;omega⟩,hall,fun st' z hz hwz=>?_⟩;by_cases hk:st'=zs.length+ys.length
     ·subst hk;rw[qa8] at hz;cases hz;refine ⟨by simp,hysz,_,t,qe0 hb,by rw[qcH];exact g4,by rw[hysz,←g4];rw[quq,hus];omega,fun i v hv hi j c hc=>?_⟩
      have hj:j<s:=by
       have:=(qtB.1 hc).1;rw[hall v (qtP hv)] at this;exact this
      rw[qcW _ _ _ _ (by simpa using hfit),hysz];have hfg:=qd1 hall hv hj;rw[hc,qeT] at hfg;have lz:=qaU (xs:=zs) (sz:=s) hzs;by_cases hin:i * s+j<zs.length * s
      ·rw[if_neg (by omega)];have hiz:i<zs.length:=Nat.lt_of_mul_lt_mul_right (a:=s) (by omega);rw[qtD hiz] at hv;obtain ⟨d,hd1,hd2⟩:=g6 i v hv hiz j c hc;exact ⟨d,by rw[hysz] at hd1;exact hd1,hd2.mono hle⟩
      ·rw[qtC (by omega),lz] at hfg;obtain ⟨d,hd1,hd2⟩:=(qca hn').2 _ _ hfg;have hlt:=(qtS.1 hd1).1;rw[if_pos (by simp;omega)];exact ⟨d,by simpa using hd1,hd2.mono hle⟩
     ·have hz':E.ρ l st'=some z:=by
       simp only[En.at] at hz;rw[if_neg (by simp;exact hk)] at hz;exact hz
      obtain ⟨k1,k2,D,t',k3,k4,k5,k6⟩:=hst st' z hz' hwz;refine ⟨by simp;omega,k2,?_⟩;by_cases hzb:z.b=y.b
      ·rw[hzb] at k3;rw[g3] at k3;cases k3;refine ⟨_,t,by rw[hzb];exact qe0 hb,by rw[qcH];exact k4,k5,fun i v hv hi j c hc=>?_⟩;have hiz:i<zs.length:=by omega
       rw[qtD hiz] at hv
       have hj:j<s:=by
        have:=(qtB.1 hc).1;rw[hzs v (qtP hv)] at this;exact this
       obtain ⟨d,hd1,hd2⟩:=k6 i v hv hi j c hc;have hm:(i+1) * s≤zs.length * s:=qut _ (by omega);rw[quq] at hm;rw[qcW _ _ _ _ (by simpa using hfit),k2,if_neg (by omega)];exact ⟨d,by rw[k2] at hd1;exact hd1,hd2.mono hle⟩
      ·refine ⟨D,t',by rw[qff hzb];exact k3,k4,k5,fun i v hv hi j c hc=>?_⟩;rw[qtD (by omega)] at hv;obtain ⟨d,hd1,hd2⟩:=k6 i v hv hi j c hc;exact ⟨d,hd1,hd2.mono hle⟩
    have hch:=hs.change (E':=E.at l (zs.length+ys.length) y) (w':=World.put w y.b (over C (0 * y.sz+zs.length * s) us.toList) t) hlive rfl hle (fun l' st' hl'=>qbD hl') (fun st' z hz=>by
      by_cases hk:st'=zs.length+ys.length
      ·subst hk;rw[qa8] at hz;cases hz;exact .inl ⟨_,_,hr,rfl⟩
      ·simp only[En.at] at hz;rw[if_neg (by simp;exact hk)] at hz;exact .inl ⟨_,_,hz,rfl⟩) (by rw[qiE];exact qtH _)
     (fun b' _ hno=>qff (fun e=>hno _ _ hr e.symm)) rfl hnew
    refine ⟨_,_,_,hrun,?_,hch.1,hch.2,by simp⟩;have:=VR.arr (E:=E.at l (zs.length+ys.length) y) (l:=l) (off:=0) (len:=zs.length+ys.length) (cap:=cap) (st:=zs.length+ys.length) qa8 hN hcap;exact this
   ·have hne:ys≠[]:=by rintro rfl;simp at hcap;omega
    obtain ⟨b,c,us,rfl,hn,hn'⟩:=qbi (P:=P) (sz:=s) hs1 hx hel hys h0;obtain ⟨b',c',us',he',ho,ho'⟩:=qbi (P:=P) (sz:=s) hs1 (VR.arr hr hN hcc) hel0 hzs h0;cases he';obtain ⟨newCap,rest,t',hnc,hrest,hrun⟩:=qda (T:=T) ht (by omega) hroom ho hn;have hsz1:=(qca ho').1;have hsz2:=(qca hn').1;rw[qaU hzs] at hsz1;rw[qaU hys] at hsz2;have hle:E.le (E.at l (zs.length+ys.length) ⟨w.heap.size,(us'++us++rest).size,s⟩):=qfp (hnone hne)
    have hall:∀v,v∈zs++ys→v.cells.length=s:=fun v hv=>by
     rcases quh.1 hv with hv|hv
     ·exact hzs v hv
     ·exact hys v hv
    have hnew:OR (E.at l (zs.length+ys.length) ⟨w.heap.size,(us'++us++rest).size,s⟩) { w with drawn:=w.drawn+1,heap:=w.heap.push (.cells (us'++us++rest) t' (0,0)) } l (.arr (zs++ys) s wr):=by
     refine ⟨⟨h0,by simp;omega⟩,hall,fun st' z hz hwz=>?_⟩;by_cases hk:st'=zs.length+ys.length
     ·subst hk;rw[qa8] at hz;cases hz;exact ⟨by simp,rfl,qhe (t:=t') h0 hzs hys (ho'.mono hle) (hn'.mono hle) (by simp)⟩
     ·have hz':E.ρ l st'=some z:=by
       simp only[En.at] at hz;rw[if_neg (by simp;exact hk)] at hz;exact hz
      obtain ⟨k1,k2,D,t2,k3,k4,k5,k6⟩:=hst st' z hz' hwz;have hzlt:z.b<w.heap.size:=(qtS.1 k3).1;refine ⟨by simp;omega,k2,D,t2,by simp only[quA];rw[if_neg (by omega)];exact k3,k4,k5,fun i v hv hi j c hc=>?_⟩;rw[qtD (by omega)] at hv;obtain ⟨d,hd1,hd2⟩:=k6 i v hv hi j c hc;exact ⟨d,hd1,hd2.mono hle⟩
    have hch:=hs.change (E':=E.at l (zs.length+ys.length) ⟨w.heap.size,(us'++us++rest).size,s⟩) (w':={ w with drawn:=w.drawn+1,heap:=w.heap.push (.cells (us'++us++rest) t' (0,0)) }) hlive rfl hle (fun l' st' hl'=>qbD hl') (fun st' z hz=>by
      by_cases hk:st'=zs.length+ys.length
      ·subst hk;rw[qa8] at hz;cases hz;exact .inr ⟨qtH _,by show w.heap.size<(w.heap.push _).size;simp,_,_,hr⟩
      ·simp only[En.at] at hz;rw[if_neg (by simp;exact hk)] at hz;exact .inl ⟨_,_,hz,rfl⟩) (by simp)
     (fun b' hb' _=>by simp only[quA];rw[if_neg (by omega)]) rfl hnew
    refine ⟨_,_,_,hrun,?_,hch.1,hch.2,by simp⟩
    have:=VR.arr (E:=E.at l (zs.length+ys.length) ⟨w.heap.size,(us'++us++rest).size,s⟩) (l:=l) (off:=0) (len:=zs.length+ys.length) (cap:=newCap) (st:=zs.length+ys.length) qa8 (by
     simp only[Array.size_append];rw[←hsz1,←hsz2,hrest,←quq,←quq];exact qut _ (by omega)) hnc
    simpa using this
 ·cases h
theorem qoa{α β:Type}{P:Program}{w:World}{f:α→Sem β}{g:α→β}{xs:Array α}(h:∀x,x∈xs.toList→(f x).run P w=.ok (g x) w):(xs.mapM f).run P w=.ok (xs.map g) w:=by
 have key:∀(l:List α) (acc:Array β),(∀x,x∈l→(f x).run P w=.ok (g x) w)→
   (l.foldlM (fun (acc:Array β) a=>do let b ←f a;pure (acc.push b)) acc).run P w=.ok (acc++(l.map g).toArray) w:=by
  intro l
  induction l with
  | nil=>intro acc _;simp
  | cons x l ih=>
   intro acc h;simp only[List.foldlM_cons,Sem.run_bind,h x (by simp),Result.andThen,Sem.run_pure];rw[ih _ (fun y hy=>h y (by simp[hy]))];simp
 rw[Array.mapM_eq_foldlM_push,←Array.foldlM_toList,key xs.toList #[] h];simp only[Array.empty_append];congr 1;apply qvr.1;simp
def qal:V→List (Nat×Nat×V)→Option V
 | z,[]=>some z
 | z,(off,n,x)::ps=>(z.upd off n x).bind fun z'=>qal z' ps
theorem qdB:∀(us:List Value) (k:Nat) (C:Array Value) (off:Nat),(us.zipIdx k).foldl (fun cs (x:Value×Nat)=>cs.setIfInBounds (off+x.2) x.1) C=over C (off+k) us
 | [],_,_,_=>rfl
 | u::us,k,C,off=>by
  simp only[List.zipIdx_cons,List.foldl_cons,over];rw[qdB us (k+1) _ off];rfl
theorem qev{E:En}{place:Nat→Option (Nat×Nat)}:∀(ps:List (Nat×Nat×Nat×V)) (us:List (Nat×Value)) (z r:V) (C:Array Value),ps.length=us.length→
  (∀(i:Nat) (p:Nat×Nat×Nat×V) (u:Nat×Value),ps[i]?=some p→us[i]?=some u→p.1=u.1∧place p.1=some (p.2.1,p.2.2.1)∧VR E p.2.2.2 u.2)→z.isAgg=true→VR E z (.agg C)→
  qal z (ps.map fun p=>p.2)=some r→(∀p,p∈ps→¬ (p.2.1=0∧p.2.2.1=z.size))→∃D,Instr.fill place C us=some D∧VR E r (.agg D)
 | [],us,z,r,C,hl,_,_,hz,h,_=>by
  have:us=[]:=qvn.1 hl.symm;subst this;simp only[quG,qal] at h;cases h;exact ⟨C,rfl,hz⟩
 | (f,off,n,x)::ps,us,z,r,C,hl,hp,hag,hz,h,hne=>by
  cases us with
  | nil=>simp at hl
  | cons u us=>
   simp only[qtW,qal] at h
   cases hu:z.upd off n x with
   | none=>rw[hu] at h;cases h
   | some z'=>
    rw[hu] at h;simp only[qtT] at h;obtain ⟨p1,p2,p3⟩:=hp 0 _ _ rfl rfl;obtain ⟨u1,u2,u3,u4,u5⟩:=qiN hu;simp only at p1 p2 p3;obtain ⟨c1,c2⟩:=p3.cells (qa2 u2);obtain ⟨z1,z2⟩:=hz.cells (by rintro rfl;simp[V.isAgg] at hag);have hC:(Value.agg C).cells=C:=rfl;rw[hC] at z1 z2;have hus:u.2.cells.size=n:=by rw[←c1];exact u1
    have hag':z'.isAgg=true:=by
     have hne0:=hne (f,off,n,x) (by simp);unfold V.upd at hu;rw[if_pos ⟨u1,u2⟩,if_neg hne0] at hu;split at hu
     ·split at hu <;> cases hu;rfl
     ·cases hu
    have hz':VR E z' (.agg (over C off u.2.cells.toList)):=by
     have:∃cs,z'=.agg cs:=by cases z' <;> simp[V.isAgg] at hag';exact ⟨_,rfl⟩
     obtain ⟨cs,rfl⟩:=this;have e:(V.agg cs).cells=cs:=rfl;rw[e] at u4 u5;refine .agg (by rw[qcH];omega) fun j v d hv hd=>?_
     rw[qcW _ _ _ _ (by simp;omega)] at hd;rw[u5] at hv;simp only[quK,hus] at hd;by_cases hin:off≤j∧j<off+n
     ·rw[if_pos hin] at hd hv;exact c2 _ _ _ hv (by simpa using hd)
     ·rw[if_neg hin] at hd hv;exact z2 j v d hv hd
    obtain ⟨D,hD,hr⟩:=qev ps us z' r (over C off u.2.cells.toList) (by simpa using hl) (fun i p q hi hj=>hp (i+1) p q (by simpa using hi) (by simpa using hj)) hag' hz' h
     (fun p hp=>by rw[V.size,u4];exact hne p (by simp[hp]))
    refine ⟨D,?_,hr⟩
    have hz3:u.2.cells.zipIdx.foldl (fun cs (x:Value×Nat)=>cs.setIfInBounds (off+x.2) x.1) C=over C off u.2.cells.toList:=by
     rw[←Array.foldl_toList,Array.toList_zipIdx,qdB];rfl
    obtain ⟨u0,uv⟩:=u;simp only at p1 p2 hus hz3 hD;subst p1;simp only[Instr.fill,p2,hus];rw[if_neg (by simp;omega)];rw[←hD];congr 1
def qbH(P:Program)(t:TypeId):Option (List (Nat×Nat)):=
 match P.underlying t with
 | some (.struct fs)=>fs.toList.mapM fun f=>(P.info? f.type).map fun i=>(f.offset,i.size)
 | some (.array n e)=>if n≤64 then (P.info? e).map fun i=>(List.range n).map fun j=>(j * i.size,i.size) else none
 | _=>none
theorem qgw{P:Program}{w:World}{fs:Array Field}{l:List (Nat×Nat)}(h:(fs.toList.mapM fun f=>(P.info? f.type).map fun i=>(f.offset,i.size))=some l):
  (fs.mapM fun f=>do pure (f.offset,←sizeOf f.type):Sem (Array (Nat×Nat))).run P w=.ok l.toArray w:=by
 have h1:l=fs.toList.map fun f=>(f.offset,P.cellsOf f.type):=by
  have:∀(fs:List Field) (l:List (Nat×Nat)),(fs.mapM fun f=>(P.info? f.type).map fun i=>(f.offset,i.size))=some l→l=fs.map fun f=>(f.offset,P.cellsOf f.type):=by
   intro fs
   induction fs with
   | nil=>intro l h;simp at h;simp[h]
   | cons f fs ih=>
    intro l h;simp only[quN,quw] at h
    cases hi:P.info? f.type with
    | none=>rw[hi] at h;simp at h
    | some i=>
     rw[hi] at h;simp only[qtU,qtT] at h
     cases hr:(fs.mapM fun f=>(P.info? f.type).map fun i=>(f.offset,i.size)) with
     | none=>rw[hr] at h;simp at h
     | some r=>
      rw[hr] at h;simp at h;subst h;simp[Program.cellsOf,hi,ih r hr]
  exact this _ _ h
 have h2:∀f,f∈fs.toList→∃i,P.info? f.type=some i:=by
  intro f hf
  cases hi:P.info? f.type with
  | some i=>exact ⟨i,rfl⟩
  | none=>
   exfalso
   have:∀(fs:List Field) (l:List (Nat×Nat)),f∈fs→(fs.mapM fun f=>(P.info? f.type).map fun i=>(f.offset,i.size))=some l→False:=by
    intro fs
    induction fs with
    | nil=>intro l hm;simp at hm
    | cons g fs ih=>
     intro l hm h;simp only[quN,quw] at h;rcases quc.1 hm with rfl|hm
     ·rw[hi] at h;simp at h
     ·cases hg:P.info? g.type with
      | none=>rw[hg] at h;simp at h
      | some i=>
       rw[hg] at h;simp only[qtU,qtT] at h
       cases hr:(fs.mapM fun f=>(P.info? f.type).map fun i=>(f.offset,i.size)) with
       | none=>rw[hr] at h;simp at h
       | some r=>exact ih r hm hr
   exact this _ _ hf h
 rw[qoa (g:=fun f=>(f.offset,P.cellsOf f.type)) (fun f hf=>by
  obtain ⟨i,hi⟩:=h2 f hf;simp only[Sem.run_bind,qa0 hi,Result.andThen,Sem.run_pure];simp[Program.cellsOf,hi])]
 rw[h1];congr 1;apply qvr.1;simp
theorem qmu{E:En}{S:St}{P:Program}{w:World}{t:TypeId}{i:TypeInfo}{zv:Value}{z r:V}{ps:List (Nat×Nat×Nat×V)}{us:Array (Nat×Value)}{l:List (Nat×Nat)}(hs:SR E S w)(hi:P.info? t=some i)(hz:i.zero=some zv)
  (hl:qbH P t=some l) (hzr:VR E z zv) (hzs:z.isAgg=true) (hlen:ps.length=us.size)
  (hp:∀(j:Nat) (p:Nat×Nat×Nat×V) (u:Nat×Value),ps[j]?=some p→us[j]?=some u→p.1=u.1∧l[p.1]?=some (p.2.1,p.2.2.1)∧VR E p.2.2.2 u.2)
  (hne:∀p,p∈ps→¬ (p.2.1=0∧p.2.2.1=z.size)) (h:qal z (ps.map fun p=>p.2)=some r):
  Sim P E S w (Instr.build t us) r S:=by
 obtain ⟨C,rfl⟩:∃C,zv=.agg C:=by
  cases z <;> simp[V.isAgg] at hzs;cases hzr;exact ⟨_,rfl⟩
 unfold qbH at hl;split at hl <;> try cases hl
 case h_2 n e hu=>
  split at hl <;> try cases hl
  cases hie:P.info? e with
  | none=>rw[hie] at hl;cases hl
  | some ie=>
   rw[hie] at hl;simp only[qtU,Option.some.injEq] at hl
   obtain ⟨D,hD,hr⟩:=qev (place:=fun i=>some (i * ie.size,ie.size)) ps us.toList z r C (by simpa using hlen) (fun j p u h1 h2=>by
    obtain ⟨a,b,c⟩:=hp j p u h1 (by simpa using h2);refine ⟨a,?_,c⟩;rw[←hl,qtV,qtK] at b;obtain ⟨q,hq,hqe⟩:=b;rw[qtB] at hq;obtain ⟨_,hq⟩:=hq;rw[List.getElem_range] at hq;subst hq;simpa using hqe) hzs hzr h hne
   refine Sim.pure hs ?_ hr;simp only[Instr.build,Sem.run_bind,qaW hi hz,Result.andThen,qad hu,qa0 hie];have hC:(Value.agg C).cells=C:=rfl;rw[hC,hD];simp
 rename_i fs hu;obtain ⟨D,hD,hr⟩:=qev (place:=fun i=>l[i]?) ps us.toList z r C (by simpa using hlen) (fun j p u h1 h2=>hp j p u h1 (by simpa using h2)) hzs hzr h hne;refine Sim.pure hs ?_ hr;simp only[Instr.build,Sem.run_bind,qaW hi hz,Result.andThen,qad hu,qgw hl];have e:(fun (x:Nat)=>l.toArray[x]?)=fun (x:Nat)=>l[x]?:=by funext x;simp
 have hC:(Value.agg C).cells=C:=rfl;rw[e,hC,hD];simp
theorem qoQ{E:En}{S:St}{P:Program}{w:World}{t:TypeId}{i:TypeInfo}{zv:Value}{n j:Nat}{x:V}{u:Value}{l:List (Nat×Nat)}(hs:SR E S w)(hi:P.info? t=some i)(hz:i.zero=some zv)(hzn:zv.cells.size=n)
  (hl:qbH P t=some l) (hj:l[j]?=some (0,n)) (hx:VR E x u) (hn:x.size=n) (hf:(x.cells.all V.flat)=true):Sim P E S w (Instr.build t #[(j,u)]) (.agg x.cells) S:=by
 obtain ⟨c1,c2⟩:=hx.cells (qa2 hf);have hus:u.cells.size=n:=by rw[←c1];exact hn
 have hov:u.cells.zipIdx.foldl (fun cs (q:Value×Nat)=>cs.setIfInBounds (0+q.2) q.1) zv.cells=u.cells:=by
  rw[←Array.foldl_toList,Array.toList_zipIdx,qdB];apply qvc;intro k;have hlen:u.cells.toList.length=zv.cells.size:=by rw[quK,hus,hzn]
  rw[qcW _ _ _ _ (by omega)];split
  ·simp
  ·rename_i hk;rw[quY (by omega),quY (by rw[hus,←hzn,←hlen];omega)]
 have hfill:∀place:Nat→Option (Nat×Nat),place j=some (0,n)→Instr.fill place zv.cells [(j,u)]=some u.cells:=by
  intro place hp;simp only[Instr.fill,hp];rw[if_neg (by simp;omega)];exact congrArg some hov
 have hvr:VR E (.agg x.cells) (.agg u.cells):=.agg c1 c2;unfold qbH at hl;split at hl <;> try cases hl
 ·rename_i fs hu;refine Sim.pure hs ?_ hvr;simp only[Instr.build,Sem.run_bind,qaW hi hz,Result.andThen,qad hu,qgw hl];rw[hfill _ (by simpa using hj)];simp
 ·rename_i m e hu;split at hl <;> try cases hl
  cases hie:P.info? e with
  | none=>rw[hie] at hl;cases hl
  | some ie=>
   rw[hie] at hl;simp only[qtU,Option.some.injEq] at hl
   have hpj:(some (j * ie.size,ie.size):Option (Nat×Nat))=some (0,n):=by
    rw[←hl,qtV,qtK] at hj;obtain ⟨q,hq,hqe⟩:=hj;rw[qtB] at hq;obtain ⟨_,hq⟩:=hq;rw[List.getElem_range] at hq;subst hq;simpa using hqe
   refine Sim.pure hs ?_ hvr;simp only[Instr.build,Sem.run_bind,qaW hi hz,Result.andThen,qad hu,qa0 hie];rw[hfill (fun i=>some (i * ie.size,ie.size)) hpj];simp
theorem qfA:∀(us vs:List Value) (C:Array Value) (o:Nat),over (over C o us) (o+us.length) vs=over C o (us++vs)
 | [],vs,C,o=>by simp[over]
 | u::us,vs,C,o=>by
  simp only[over,qtO,que];rw[←qfA us vs,show o+(us.length+1)=o+1+us.length by omega]
theorem qi2{sz:Nat}:∀(us:List (Nat×Value)) (k:Nat) (C:Array Value),(∀(i:Nat) (u:Nat×Value),us[i]?=some u→u.1=k+i∧u.2.cells.size=sz)→(k+us.length) * sz≤C.size→
  Instr.fill (fun i=>some (i * sz,sz)) C us=some (over C (k * sz) (us.flatMap fun u=>u.2.cells.toList))
 | [],k,C,_,_=>rfl
 | u::us,k,C,h,hs=>by
  obtain ⟨u0,uv⟩:=u;obtain ⟨h1,h2⟩:=h 0 _ rfl;simp only[qvt] at h1 h2;subst h1;have hm:(u0+(us.length+1)) * sz=u0 * sz+sz+us.length * sz:=by rw[quq,quq,Nat.one_mul];omega
  rw[que,hm] at hs
  have hz3:uv.cells.zipIdx.foldl (fun cs (x:Value×Nat)=>cs.setIfInBounds (u0 * sz+x.2) x.1) C=over C (u0 * sz) uv.cells.toList:=by
   rw[←Array.foldl_toList,Array.toList_zipIdx,qdB];rfl
  simp only[Instr.fill,h2];rw[if_neg (by simp;omega)];have hz4:(uv.cells.zipIdx.foldl (fun (cs:Array Value) (x:Value×Nat)=>match x with|(c,j)=>cs.setIfInBounds (u0 * sz+j) c) C)=over C (u0 * sz) uv.cells.toList:=hz3
  rw[hz4,qi2 us (u0+1) _ (fun i u hu=>by
   obtain ⟨a,b⟩:=h (i+1) u (by simpa using hu);exact ⟨by omega,b⟩) (by rw[qcH,quq,quq,Nat.one_mul];omega)]
  simp only[quz];rw[←qfA,quK,h2,show (u0+1) * sz=u0 * sz+sz by rw[quq];omega]
theorem qn1{C:Array Value}{us:List Value}(h:us.length=C.size):over C 0 us=us.toArray:=by
 apply qvc;intro i;rw[qcW _ _ _ _ (by omega)];by_cases hi:i<us.length
 ·rw[if_pos ⟨by omega,by omega⟩];simp
 ·rw[if_neg (by omega),quY (by omega),quY (by simp;omega)]
structure SlTy(P:Program)(t:TypeId)(sz:Nat):Prop where
 h:∃e i z,P.underlying t=some (.slice e)∧P.info? e=some i∧i.size=sz∧i.zero=some z
def slTy(P:Program)(t:TypeId):Option Nat:=
 match P.underlying t with
 | some (.slice e)=>match P.info? e with
  | some i=>if i.zero.isSome=true then some i.size else none
  | none=>none
 | _=>none
theorem qlT{P:Program}{t:TypeId}{sz:Nat}(h:slTy P t=some sz):SlTy P t sz:=by
 unfold slTy at h;split at h <;> try cases h
 rename_i e h1;split at h <;> try cases h
 rename_i i h2;split at h <;> try cases h
 rename_i h3;obtain ⟨z,hz⟩:=qu8.1 h3;exact ⟨e,i,z,h1,h2,rfl,hz⟩
theorem qiH{E:En}{sz:Nat}:∀(xs:List V) (us:List Value),xs.length=us.length→(∀(i:Nat) (x:V) (u:Value),xs[i]?=some x→us[i]?=some u→VR E x u)→fits sz xs=true→
  VR E (.agg (qbR xs)) (.agg (us.flatMap fun u=>u.cells.toList).toArray)∧(∀u,u∈us→u.cells.size=sz)
 | [],us,hl,_,_=>by
  have:us=[]:=qvn.1 hl.symm;subst this;exact ⟨.agg rfl fun i v u h _=>by simp[qbR] at h,by simp⟩
 | x::xs,us,hl,h,hf=>by
  cases us with
  | nil=>simp at hl
  | cons u us=>
   have hxu:=h 0 x u rfl rfl;simp only[fits,List.all_cons,qtJ,beq_iff_eq] at hf;obtain ⟨⟨f1,f2⟩,f3⟩:=hf;obtain ⟨i1,i2⟩:=qiH xs us (by simpa using hl) (fun i y v hy hv=>h (i+1) y v (by simpa using hy) (by simpa using hv)) f3;obtain ⟨c1,c2⟩:=hxu.cells (qa2 f2);obtain ⟨g1,g2⟩:=qca i1;have hus:u.cells.size=sz:=by rw[←c1];exact f1
   refine ⟨?_,fun v hv=>?_⟩
   ·refine .agg (by simp only[qbR,quz,qtZ,List.size_toArray,quK] at *;omega) fun i v d hv hd=>?_
    simp only[qbR,quz] at hv;simp only[quz,qvd] at hd;by_cases hi:i<x.cells.length
    ·rw[qtD hi] at hv;rw[qtD (by simp;omega)] at hd;exact c2 i v d hv (by simpa using hd)
    ·rw[qtC (by omega)] at hv;rw[qtC (by simp;omega)] at hd;obtain ⟨e,he,hr⟩:=g2 _ v hv;simp only[qvd] at he;rw[quK,←c1] at hd;rw[hd] at he;cases he;exact hr
   ·rcases quc.1 hv with rfl|hv
    ·exact hus
    ·exact i2 v hv
theorem qkw{E:En}{S:St}{P:Program}{w:World}{t:TypeId}{sz:Nat}{xs:List V}{us:Array (Nat×Value)}(hs:SR E S w)(ht:SlTy P t sz)(hl:xs.length=us.size)
  (h:∀(i:Nat) (x:V) (u:Nat×Value),xs[i]?=some x→us[i]?=some u→u.1=i∧VR E x u.2) (hf:fits sz xs=true) (hroom:xs.length * sz≤2 ^ 24):
  Sim P E S w (Instr.buildSlice t xs.length us) (.sl true xs) S:=by
 obtain ⟨e,i,z,t1,t2,rfl,t3⟩:=ht.h
 obtain ⟨f1,f2⟩:=qiH (E:=E) xs (us.toList.map fun u=>u.2) (by simp;exact hl) (fun j x u hx hu=>by
  simp only[qtV,qtK] at hu;obtain ⟨u',hu',rfl⟩:=hu;exact (h j x u' hx (by simpa using hu')).2) hf
 obtain ⟨zero,hzero⟩:∃y,y=(if xs.length * i.size=0 then (#[]:Array Value) else z.cells):=⟨_,rfl⟩
 let C:Array Value:=(Array.range (xs.length * i.size)).map (fun k=>zero[k % zero.size]!)
 have hC:C.size=xs.length * i.size:=by simp[C]
 have hfill:Instr.fill (fun k=>some (k * i.size,i.size)) C us.toList=some (us.toList.flatMap fun u=>u.2.cells.toList).toArray:=by
  rw[qi2 us.toList 0 C (fun j u hu=>by
   have hj:j<xs.length:=by have:=(qtB.1 hu).1;simp at this;omega
   have:=(h j xs[j] u (by simp) (by simpa using hu)).1;exact ⟨by omega,f2 _ (qt3.2 ⟨u,qtP hu,rfl⟩)⟩) (by rw[hC];simp;rw[hl];exact qtH _),Nat.zero_mul,qn1]
  rw[hC];have g:=(qca f1).1;rw[qaU (qcr hf)] at g;rw[g];simp[List.flatMap_map]
 have hD:(us.toList.flatMap fun u=>u.2.cells.toList).toArray=((us.toList.map fun u=>u.2).flatMap fun u=>u.cells.toList).toArray:=by simp[List.flatMap_map]
 rw[hD] at hfill;obtain ⟨s1,s2,s3⟩:=hs.lay ((us.toList.map fun u=>u.2).flatMap fun u=>u.cells.toList).toArray e;refine ⟨.slice (some ⟨w.heap.size,0,none⟩) xs.length xs.length,_,_,?_,?_,s1,s3,qtH _⟩
 ·simp only[Instr.buildSlice,Sem.run_bind,qad t1,qa0 t2,Result.andThen];rw[if_neg (by omega)];have hfill':Instr.fill (fun k=>some (k * i.size,i.size)) (Array.map (fun x=>zero[x % zero.size]!) (Array.range (xs.length * i.size))) us.toList=_:=hfill;by_cases h0:xs.length * i.size=0
  ·rw[if_pos h0] at hzero;subst hzero;rw[if_pos h0];simp only[Sem.run_bind,Sem.run_pure,Result.andThen,hfill',qbY]
  ·rw[if_neg h0] at hzero;subst hzero;rw[if_neg h0];simp only[Sem.run_bind,Sem.run_pure,Result.andThen,qaW t2 t3,hfill',qbY]
 ·obtain ⟨g1,g2⟩:=qca f1;have hlen:=qaU (qcr hf);refine .sl (sz:=i.size) (qtH _) (fun _=>rfl) (qcr hf) (fun k j hk hj=>?_) (fun k v j c' c hv hc hi=>?_)
  ·simp only[En.lay,if_true,quJ]
   have:k * i.size+j<(qbR xs).length:=by
    rw[hlen];have:(k+1) * i.size≤xs.length * i.size:=qut _ hk;rw[quq] at this;omega
   obtain ⟨d,hd,_⟩:=g2 (k * i.size+j) _ (qtF this);rw[hd];rfl
  ·simp only[En.lay,if_true,quJ] at hi
   have hj:j<i.size:=by
    have:=(qtB.1 hc).1;rw[show v.cells.length=i.size from qcr hf v (qtP hv)] at this;exact this
   have hg:=qd1 (qcr hf) hv hj;rw[hc] at hg;obtain ⟨d,hd,hr⟩:=g2 _ _ hg;rw[hd] at hi;cases hi;exact hr.mono s2
theorem qeZ{E:En}{P:Program}{w:World}{v r:V}{cs:Array Value}{t:TypeId}{k:Option Nat}{off:Nat}(hk:qa4 P t=some k)(hv:VR E v (.agg cs))(hnt:v≠.top)(hr:v.part off k=some r):
  ∃u,(part t cs off).run P w=.ok u w∧VR E r u:=by
 obtain ⟨c1,c2⟩:=hv.cells hnt;have hcs:(Value.agg cs).cells=cs:=rfl;rw[hcs] at c1 c2;unfold qa4 at hk
 have scalar:∀d,P.underlying t=some d→(∀fs,d≠.struct fs)→(∀n e,d≠.array n e)→k=none→∃u,(part t cs off).run P w=.ok u w∧VR E r u:=by
  intro d hd h1 h2 hk;subst hk;simp only[V.part] at hr;have ho:=(qtB.1 hr).1
  have this:(isAgg t).run P w=.ok false w:=by
   simp only[isAgg,Sem.run_bind,qad hd,Result.andThen];cases d <;> first|rfl|exact absurd rfl (h1 _)|exact absurd rfl (h2 _ _)
  have hco:cs[off]?=some (cs[off]'(by omega)):=by simp
  refine ⟨_,?_,c2 off r _ hr hco⟩;simp only[part,Sem.run_bind,this,Result.andThen,qua,if_false,hco,Sem.run_pure]
 have agg:∀d,P.underlying t=some d→(∃fs,d=.struct fs)∨(∃n e,d=.array n e)→((P.info? t).map fun i=>some i.size)=some k→∃u,(part t cs off).run P w=.ok u w∧VR E r u:=by
  intro d hd h1 hk
  cases hi:P.info? t with
  | none=>rw[hi] at hk;cases hk
  | some i=>
   rw[hi] at hk;cases hk
   have this:(isAgg t).run P w=.ok true w:=by
    simp only[isAgg,Sem.run_bind,qad hd,Result.andThen];rcases h1 with ⟨fs,rfl⟩|⟨n,e,rfl⟩ <;> rfl
   have hrun:(part t cs off).run P w=.ok (.agg (cs.extract off (off+i.size))) w:=by
    simp only[part,Sem.run_bind,this,Result.andThen,if_true,qa0 hi,Sem.run_pure]
   refine ⟨_,hrun,?_⟩;simp only[V.part] at hr;split at hr
   ·rename_i hc;obtain ⟨rfl,h2,ha⟩:=hc;cases hr
    have:cs.extract 0 (0+i.size)=cs:=by
     rw[h2,V.size,c1];simp
    rw[this];exact hv
   ·split at hr
    ·rename_i ds _;split at hr
     ·rename_i hle;cases hr;have hds:(V.agg ds).cells=ds:=rfl;rw[hds] at c1 c2;refine .agg (by simp;omega) fun j x u hx hu=>?_
      have hj:j<i.size:=by
       have:=(qtB.1 hx).1;simp at this;omega
      rw[qt9 hj,qun] at hx;rw[Array.getElem?_extract] at hu;split at hu
      ·exact c2 _ x u hx hu
      ·cases hu
     ·cases hr
    ·cases hr
 cases hd:P.underlying t with
 | none=>rw[hd] at hk;cases hk
 | some d=>
  rw[hd] at hk;cases d <;> first
   | exact agg _ hd (.inl ⟨_,rfl⟩) hk
   | exact agg _ hd (.inr ⟨_,_,rfl⟩) hk
   | (cases hk;exact scalar _ hd (fun _=>by simp) (fun _ _=>by simp) rfl)
def qfR(P:Program)(t:TypeId)(f:Nat):Option (Nat×Option Nat):=
 match P.underlying t with
 | some (.struct fs)=>match fs[f]? with
  | some x=>(qa4 P x.type).map fun k=>(x.offset,k)
  | none=>none
 | _=>none
theorem qny{E:En}{S:St}{P:Program}{w:World}{v r:V}{u:Value}{t:TypeId}{f off:Nat}{k:Option Nat}(hs:SR E S w)(hv:VR E v u)(ha:v.isAgg=true)(hf:qfR P t f=some (off,k))(hr:v.part off k=some r):
  Sim P E S w (Instr.field t u f) r S:=by
 unfold qfR at hf;split at hf <;> try cases hf
 rename_i fs hu;split at hf <;> try cases hf
 rename_i x hx
 cases hk:qa4 P x.type with
 | none=>rw[hk] at hf;cases hf
 | some k'=>
  rw[hk] at hf;cases hf
  have:∃cs,u=.agg cs:=by
   cases v <;> simp[V.isAgg] at ha;cases hv;exact ⟨_,rfl⟩
  obtain ⟨cs,rfl⟩:=this;obtain ⟨d,hd,hr⟩:=qeZ (P:=P) (w:=w) hk hv (by rintro rfl;simp[V.isAgg] at ha) hr;refine Sim.pure hs ?_ hr;simp only[Instr.field,Sem.run_bind,qad hu,Result.andThen,hx,asAgg,Sem.run_pure,hd]
theorem qrT{E:En}{S:St}{P:Program}{w:World}{v r:V}{u:Value}{t e:TypeId}{ei:TypeInfo}{n:Nat}{ix:Int}{kd:IntKind}{k:Option Nat}(hs:SR E S w)(hv:VR E v u)(ha:v.isAgg=true)(hu:P.underlying t=some (.array n e))(he:P.info? e=some ei)(hk:qa4 P e=some k)
  (h0:0≤ix∧ix<n) (hr:v.part (ix.toNat * ei.size) k=some r):Sim P E S w (Instr.index t u (.int kd ix)) r S:=by
 have:∃cs,u=.agg cs:=by
  cases v <;> simp[V.isAgg] at ha;cases hv;exact ⟨_,rfl⟩
 obtain ⟨cs,rfl⟩:=this;obtain ⟨d,hd,hr⟩:=qeZ (P:=P) (w:=w) hk hv (by rintro rfl;simp[V.isAgg] at ha) hr;refine Sim.pure hs ?_ hr;simp only[Instr.index,asIntOf,Sem.run_bind,Sem.run_pure,qad hu,Result.andThen];rw[if_pos h0];simp only[Sem.run_bind,qa0 he,Result.andThen,hd]
theorem qh0{E:En}{S:St}{P:Program}{w:World}{vs:List V}{r:V}{u:Value}{k:Nat}(hs:SR E S w)(hv:VR E (.tup vs) u)(hr:vs[k]?=some r):Sim P E S w (Instr.extract u k) r S:=by
 cases hv with
 | tup h g=>
  rename_i us;have hk:=(qtB.1 hr).1;have hus:us[k]?=some (us[k]'(by omega)):=by simp
  exact Sim.pure hs (by simp[Instr.extract,hus]) (g k r _ hr hus)
def idxV(s:ByteArray)(ix:Int):Option V:=if 0≤ix then (s[ix.toNat]?).map fun b=>.int .u8 b.toNat else none
theorem qpq{E:En}{S:St}{P:Program}{w:World}{s:ByteArray}{ix:Int}{k:IntKind}{t:TypeId}{r:V}(hs:SR E S w)(ht:P.underlying t=some .string)(h:idxV s ix=some r):Sim P E S w (Instr.index t (.string s) (.int k ix)) r S:=by
 unfold idxV at h;split at h <;> try cases h
 rename_i h0
 cases hb:s[ix.toNat]? with
 | none=>rw[hb] at h;cases h
 | some b=>
  rw[hb] at h;cases h;refine Sim.pure hs ?_ (.int _ _);simp[Instr.index,asIntOf,Sem.run_bind,Result.andThen,qad ht,h0,hb]
def qbJ(S:St)(sz:Nat)(d:V)(lo hi:Option Int):Option V:=
 match d with
 | .str s=>if 0≤lo.getD 0∧lo.getD 0≤hi.getD s.size∧hi.getD s.size≤s.size then some (.str (s.extract (lo.getD 0).toNat (hi.getD s.size).toNat)) else none
 | .sl x xs=>if 0≤lo.getD 0∧lo.getD 0≤hi.getD xs.length∧hi.getD xs.length≤xs.length∧(xs.all fun v=>v.size==sz)=true then
   some (.sl (x && decide (hi.getD xs.length=xs.length)) ((xs.take (hi.getD xs.length).toNat).drop (lo.getD 0).toNat)) else none
 | .arr l off len st=>if 0≤lo.getD 0∧lo.getD 0≤hi.getD len∧hi.getD len≤len then
   if lo.getD 0=0 then some (.arr l off (hi.getD len).toNat st) else if lo.getD 0=hi.getD len then some (.sl false []) else match S[l]? with
    | some (.arr _ s wr)=>if wr≤st∧s=sz then some (.arr l (off+(lo.getD 0).toNat) ((hi.getD len).toNat - (lo.getD 0).toNat) st) else none
    | _=>none
  else none
 | _=>none
theorem qgu{P:Program}{w:World}{b:Bool}{len cap:Nat}{lo hi:Option Int}{k k':IntKind}(h0:0≤lo.getD 0)(h1:lo.getD 0≤hi.getD len)(h2:hi.getD len≤len)(hc:len≤cap):
  (Instr.sliceBounds b len cap (lo.map (.int k)) (hi.map (.int k')) none).run P w=.ok ((lo.getD 0).toNat,(hi.getD len).toNat,cap) w:=by
 cases lo <;> cases hi <;> simp only[Option.getD_none,Option.getD_some] at h0 h1 h2 <;> simp only[Instr.sliceBounds,Instr.sliceBound,asIntOf,qtU,Option.map_none,Option.isSome_none,Option.getD_none,Option.getD_some,Sem.run_bind,Sem.run_pure,Result.andThen,qua,if_false]
 ·simp
 ·rw[if_pos ⟨by omega,by omega⟩];simp[Result.andThen]
 ·rw[if_pos ⟨by omega,by omega⟩];simp[Result.andThen]
 ·rw[if_pos ⟨by omega,by omega⟩];simp only[Sem.run_bind,Sem.run_pure,Result.andThen];rw[if_pos ⟨by omega,by omega⟩];simp[Result.andThen]
theorem qhV{E:En}{S:St}{P:Program}{w:World}{s:ByteArray}{lo hi:Option Int}{k k':IntKind}{t:TypeId}{r:V}{sz:Nat}(hs:SR E S w)(ht:P.underlying t=some .string)(h:qbJ S sz (.str s) lo hi=some r):
  Sim P E S w (Instr.sliceAt t (.string s) (lo.map (.int k)) (hi.map (.int k')) none) r S:=by
 simp only[qbJ] at h;split at h <;> try cases h
 rename_i hc;obtain ⟨h0,h1,h2⟩:=hc;refine Sim.pure hs ?_ (.str _);have:=qgu (P:=P) (w:=w) (b:=false) (k:=k) (k':=k') h0 h1 h2 (qtH s.size);simp only[Instr.sliceAt,Sem.run_bind,qad ht,Result.andThen,Instr.slice];simp[Sem.run_bind,Result.andThen,this]
theorem qhX{E:En}{S:St}{P:Program}{w:World}{d r:V}{u:Value}{lo hi:Option Int}{k k':IntKind}{t:TypeId}{sz:Nat}(hs:SR E S w)(ht:qcZ P t=some sz)(hd:VR E d u)(h:qbJ S sz d lo hi=some r)(hn:∀s,d≠.str s):
  Sim P E S w (Instr.sliceAt t u (lo.map (.int k)) (hi.map (.int k')) none) r S:=by
 unfold qcZ at ht;split at ht <;> try cases ht
 rename_i e hu
 cases hi':P.info? e with
 | none=>rw[hi'] at ht;cases ht
 | some i=>
  rw[hi'] at ht;cases ht;have run:∀(a:Option Addr) (len cap:Nat),0≤lo.getD 0→lo.getD 0≤hi.getD len→hi.getD len≤len→len≤cap→
    (Instr.sliceAt t (.slice a len cap) (lo.map (.int k)) (hi.map (.int k')) none).run P w=
     .ok (.slice (if cap=(lo.getD 0).toNat then a else a.map (·.add ((lo.getD 0).toNat * i.size))) ((hi.getD len).toNat - (lo.getD 0).toNat) (cap - (lo.getD 0).toNat)) w:=by
   intro a len cap h0 h1 h2 hc;have:=qgu (P:=P) (w:=w) (b:=true) (k:=k) (k':=k') h0 h1 h2 hc;simp only[Instr.sliceAt,Sem.run_bind,qad hu,Result.andThen,Instr.slice];simp[Sem.run_bind,Result.andThen,this,qa0 hi',qad hu]
  have emp:∀(f:Bool) (b o cap:Nat),(f=true→cap=0)→VR E (.sl f []) (.slice (some ⟨b,o,none⟩) 0 cap):=fun f b o cap hc=>
   .sl (sz:=0) (quj _) hc (fun v hv=>by simp at hv) (fun i j hi=>by simp at hi) (fun i v j c' c hv=>by simp at hv)
  cases hd with
  | slnil x=>
   simp only[qbJ,qu2] at h;split at h <;> try cases h
   rename_i hc;obtain ⟨h0,h1,h2,_⟩:=hc;have hl:lo.getD 0=0:=by simp at h1 h2;omega
   have hh:hi.getD 0=0:=by simp at h1 h2;omega
   refine Sim.pure hs (run none 0 0 h0 (by simpa using h1) (by simpa using h2) (qtH _)) ?_;simp[hl,hh];exact .slnil _
  | slz x a=>
   simp only[qbJ,qu2] at h;split at h <;> try cases h
   rename_i hc;obtain ⟨h0,h1,h2,_⟩:=hc;have hl:lo.getD 0=0:=by simp at h1 h2;omega
   have hh:hi.getD 0=0:=by simp at h1 h2;omega
   refine Sim.pure hs (run (some a) 0 0 h0 (by simpa using h1) (by simpa using h2) (qtH _)) ?_;simp[hl,hh];exact .slz _ _
  | sl hcap hx hss hI hvv=>
   rename_i x xs b o cap sz';simp only[qbJ] at h;split at h <;> try cases h
   rename_i hc;obtain ⟨h0,h1,h2,h3⟩:=hc;refine Sim.pure hs (run _ _ _ h0 h1 h2 hcap) ?_;generalize hL:(lo.getD 0).toNat=L;generalize hH:(hi.getD (xs.length:Int)).toNat=H;have hLH:L≤H:=by omega
   have hHl:H≤xs.length:=by omega
   have hlen:((xs.take H).drop L).length=H - L:=by simp;omega
   have hfl:(x && decide (hi.getD (xs.length:Int)=xs.length))=true→cap - L=H - L:=fun hf=>by
    simp only[qtJ,decide_eq_true_eq] at hf;have:=hx hf.1;omega
   by_cases hz:H - L=0
   ·have:(xs.take H).drop L=[]:=qvn.1 (by rw[hlen];exact hz);rw[this,hz];split
    ·exact emp _ _ _ _ (fun hf=>by rw[hfl hf];exact hz)
    ·simp only[qtU,qbF];exact emp _ _ _ _ (fun hf=>by rw[hfl hf];exact hz)
   ·have hsz:i.size=sz':=by
     have hm:xs[0]'(by omega)∈xs:=qtM _;simp only[qtY,beq_iff_eq] at h3;rw[←h3 _ hm];exact hss _ hm
    rw[if_neg (by omega)];simp only[qtU,qbF];have hmem:∀v,v∈(xs.take H).drop L→v∈xs:=fun v hv=>List.mem_of_mem_take (List.mem_of_mem_drop hv)
    have hget:∀(k:Nat) (v:V),((xs.take H).drop L)[k]?=some v→xs[L+k]?=some v:=fun k v hv=>by
     rw[qun] at hv;rw[qvs] at hv;split at hv
     ·exact hv
     ·cases hv
    have:=VR.sl (E:=E) (x:=(x && decide (hi.getD (xs.length:Int)=xs.length))) (xs:=(xs.take H).drop L) (b:=b) (o:=o+L * i.size) (cap:=cap - L) (sz:=sz') (by rw[hlen];omega) (fun hf=>by rw[hlen];exact hfl hf) (fun v hv=>hss v (hmem v hv))
     (fun k j hk hj=>by
      have:=hI (L+k) j (by rw[hlen] at hk;omega) hj;rw[quq] at this;rw[hsz,show o+L * sz'+k * sz'+j=o+(L * sz'+k * sz')+j by omega];exact this)
     (fun k v j c' c hv hc hi''=>hvv (L+k) v j c' c (hget k v hv) hc (by
      rw[quq];rw[hsz,show o+L * sz'+k * sz'+j=o+(L * sz'+k * sz')+j by omega] at hi'';exact hi''))
    rw[hlen] at this;exact this
  | arr hr hN hcc=>
   rename_i l off len cap st x;simp only[qbJ] at h;split at h <;> try cases h
   rename_i hc;obtain ⟨h0,h1,h2⟩:=hc;split at h
   ·rename_i hz;cases h;refine Sim.pure hs (run _ _ _ h0 h1 h2 hcc) ?_;have:=VR.arr (E:=E) (l:=l) (off:=off) (len:=(hi.getD (len:Int)).toNat) (cap:=cap) (st:=st) hr hN (by omega);simpa[hz,qbF] using this
   ·rename_i hz;split at h
    ·rename_i he;cases h;refine Sim.pure hs (run _ _ _ h0 h1 h2 hcc) ?_;rw[←he,Nat.sub_self];split
     ·exact emp _ _ _ _ (fun hf=>by cases hf)
     ·simp only[qtU,qbF];exact emp _ _ _ _ (fun hf=>by cases hf)
    ·rename_i he;split at h <;> try cases h
     rename_i ys s wr hob;split at h <;> try cases h
     rename_i hc';obtain ⟨c1,c2⟩:=hc';have hsz:=((hs.obs l _ hob).2.2 st x hr c1).2.1;refine Sim.pure hs (run _ _ _ h0 h1 h2 hcc) ?_;rw[if_neg (by omega)];simp only[qtU,qbF];have:=VR.arr (E:=E) (l:=l) (off:=off+(lo.getD 0).toNat) (len:=(hi.getD (len:Int)).toNat - (lo.getD 0).toNat) (cap:=cap - (lo.getD 0).toNat) (st:=st) hr
      (by rw[show off+(lo.getD 0).toNat+(cap - (lo.getD 0).toNat)=off+cap by omega];exact hN) (by omega)
     rw[quq] at this;rw[←c2,←hsz];exact this
  | str s=>exact absurd rfl (hn s)
  | _=>simp[qbJ] at h
def bits(op:BinOp)(k:IntKind)(x y:Int):Option Int:=
 let a:=BitVec.ofInt k.bits x
 let b:=BitVec.ofInt k.bits y
 match op with
 | .and=>some (k.wrap (a &&& b).toNat)
 | .or=>some (k.wrap (a ||| b).toNat)
 | .xor=>some (k.wrap (a ^^^ b).toNat)
 | .andNot=>some (k.wrap (a &&& ~~~b).toNat)
 | _=>none
def intV(op:BinOp)(k:IntKind)(a b:Int):Option V:=
 match op with
 | .add=>some (.int k (k.wrap (a+b)))
 | .sub=>some (.int k (k.wrap (a - b)))
 | .mul=>some (.int k (k.wrap (a * b)))
 | .quo=>if b=0 then none else some (.int k (k.wrap (a.tdiv b)))
 | .rem=>if b=0 then none else some (.int k (a.tmod b))
 | .eql=>some (.bool (decide (a=b)))
 | .neq=>some (.bool (!decide (a=b)))
 | .lss=>some (.bool (decide (a<b)))
 | .leq=>some (.bool (decide (a≤b)))
 | .gtr=>some (.bool (decide (b<a)))
 | .geq=>some (.bool (decide (b≤a)))
 | .and|.or|.xor|.andNot=>(bits op k a b).map (.int k)
 | _=>none
def qhZ(x y:ByteArray):Bool:=Op.bytesLess x.toList y.toList
def qg6(x y:ByteArray):Bool:=x.toList==y.toList
def strV(op:BinOp)(x y:ByteArray):Option V:=
 match op with
 | .add=>if ((x.size+y.size:Nat):Int)≤IntKind.i64.max then some (.str (x++y)) else none
 | .eql=>some (.bool (qg6 x y))
 | .neq=>some (.bool (!qg6 x y))
 | .lss=>some (.bool (qhZ x y))
 | .leq=>some (.bool (qhZ x y || qg6 x y))
 | .gtr=>some (.bool (!(qhZ x y || qg6 x y)))
 | .geq=>some (.bool (!qhZ x y))
 | _=>none
def shV(op:BinOp)(k:IntKind)(a b:Int):Option V:=
 match op with
 | .shl=>if b<0 then none else some (.int k (k.wrap (a * 2 ^ min b.toNat k.bits)))
 | .shr=>if b<0 then none else some (.int k (a.fdiv (2 ^ min b.toNat k.bits)))
 | _=>none
def binV(op:BinOp)(x y:V):Option V:=
 match x,y with
 | .int k a,.int k' b=>if op=.shl∨op=.shr then shV op k a b else if k=k' then intV op k a b else none
 | .str a,.str b=>strV op a b
 | _,_=>none
theorem qdX{op:BinOp}{t:TypeId}{x y:Operand}{a b:Value}{P:Program}{w:World}(h1:¬ (a=.nilIface∧b=.nilIface))(h2:∀c d,¬ (a=.agg c∧b=.agg d)):(eqGuard op t x y a b).run P w=.ok () w:=by
  unfold eqGuard;cases op <;> first
    | rfl
    | (cases a <;> first
        | rfl
        | (cases b <;> first|rfl|exact absurd ⟨rfl,rfl⟩ h1)
        | (cases b <;> first|rfl|exact absurd ⟨rfl,rfl⟩ (h2 _ _)))
theorem qnO{P:Program}{w:World}{op:BinOp}{k:IntKind}{a b:Int}{r:V}{E:En}(hop:op≠.shl∧op≠.shr)(h:intV op k a b=some r)(t:TypeId):∃u,(binOp op t (.int k a) (.int k b)).run P w=.ok u w∧VR E r u:=by
  cases op <;> simp only[intV,bits,qtU] at h <;> first
    | (cases h;refine ⟨.int k _,?_,.int _ _⟩;simp only[binOp,ne_eq,not_true_eq_false,if_false];rfl)
    | (cases h;refine ⟨.bool _,?_,.bool _⟩;simp[binOp,Op.intCmp];try rfl)
    | (split at h
       · cases h
       · rename_i hz;cases h;exact ⟨_,by simp[binOp,Op.intDiv,hz],.int _ _⟩)
    | (cases h;done)
    | (exact absurd rfl hop.1)
    | (exact absurd rfl hop.2)
theorem qpl{E:En}{S:St}{P:Program}{w:World}{op:BinOp}{t:TypeId}{ox oy:Operand}{x y r:V}{u v:Value}(hs:SR E S w)(hx:VR E x u)(hy:VR E y v)(h:binV op x y=some r):
    Sim P E S w (do eqGuard op t ox oy u v;binOp op t u v) r S:=by
  unfold binV at h;split at h
  · rename_i k a k' b;cases hx;cases hy;have hg:(eqGuard op t ox oy (.int k a) (.int k' b)).run P w=.ok () w:=qdX (by simp) (by simp);split at h
    · rename_i hop;unfold shV at h;rcases hop with rfl|rfl <;> simp only at h <;> split at h <;> cases h
      · rename_i hb;exact Sim.pure hs (by simp[Sem.run_bind,hg,Result.andThen,binOp,Op.shift,hb]) (.int _ _)
      · rename_i hb;exact Sim.pure hs (by simp[Sem.run_bind,hg,Result.andThen,binOp,Op.shift,hb]) (.int _ _)
    · rename_i hop;split at h <;> try cases h
      rename_i hk;subst hk;obtain ⟨u,hu,hr⟩:=qnO (P:=P) (w:=w) (E:=E) ⟨fun e=>hop (.inl e),fun e=>hop (.inr e)⟩ h t;exact Sim.pure hs (by simp only[Sem.run_bind,hg,Result.andThen];exact hu) hr
  · rename_i a b;cases hx;cases hy;have hg:(eqGuard op t ox oy (.string a) (.string b)).run P w=.ok () w:=qdX (by simp) (by simp)
    have hrun:∀u,(Op.stringOp op a b).run P w=.ok u w→(do eqGuard op t ox oy (.string a) (.string b);binOp op t (.string a) (.string b):Sem Value).run P w=.ok u w:=by
      intro u hu;simp only[Sem.run_bind,hg,Result.andThen];cases op <;> exact hu
    cases op <;> simp only[strV] at h <;> first
      | (cases h;done)
      | (cases h;exact Sim.pure hs (hrun _ (by simp[Op.stringOp];try rfl)) (.bool _))
      | (split at h
         · rename_i hle;cases h;exact Sim.pure hs (hrun _ (by simp only[Op.stringOp];rw[if_neg (by omega)];rfl)) (.str _)
         · cases h)
  · cases h
def eqV(x y:V):Option Bool:=
 match x,y with
 | .bool a,.bool b=>some (a==b)
 | .nilp,.nilp=>some true
 | .nilp,.ptr ..|.nilp,.iptr ..|.ptr ..,.nilp|.iptr ..,.nilp=>some false
 | .nilfn,.nilfn=>some true
 | .nilfn,.fn ..|.fn ..,.nilfn=>some false
 | _,_=>none
def qgd(P:Program)(t:TypeId)(x y:V):Bool:=
 match P.underlying t,x,y with
 | some .bool,.bool _,.bool _=>true
 | some (.pointer _),.nilp,.nilp|some (.pointer _),.nilp,.ptr ..|some (.pointer _),.nilp,.iptr ..|some (.pointer _),.ptr ..,.nilp|some (.pointer _),.iptr ..,.nilp=>true
 | some (.func ..),.nilfn,.nilfn|some (.func ..),.nilfn,.fn ..|some (.func ..),.fn ..,.nilfn=>true
 | _,_,_=>false
theorem qil{E:En}{P:Program}{w:World}{t:TypeId}{x y:V}{u v:Value}{b:Bool}(n:Nat)(hx:VR E x u)(hy:VR E y v)(h:eqV x y=some b)(hk:qgd P t x y=true):
  (Op.equalIn (n+1) t u v).run P w=.ok b w:=by
 cases hd:P.underlying t with
 | none=>simp[qgd,hd] at hk
 | some d=>
  simp only[Op.equalIn,Sem.run_bind,qad hd,Result.andThen];cases hx <;> cases hy <;> simp only[eqV,reduceCtorEq] at h <;> cases h <;> cases d <;> simp[qgd,hd] at hk <;> rfl
theorem qmB{E:En}{x y:V}{u v:Value}{b:Bool}(hx:VR E x u)(hy:VR E y v)(h:eqV x y=some b):¬ (u=.nilIface∧v=.nilIface)∧(∀c d,¬ (u=.agg c∧v=.agg d))∧
  (∀t,binOp .eql t u v=do pure (.bool (←Op.equal t u v)))∧(∀t,binOp .neq t u v=do pure (.bool (!(←Op.equal t u v)))):=by
 cases hx <;> cases hy <;> simp only[eqV,reduceCtorEq] at h <;> cases h <;> exact ⟨by simp,by simp,fun _=>rfl,fun _=>rfl⟩
theorem qsh{E:En}{S:St}{P:Program}{w:World}{op:BinOp}{t:TypeId}{ox oy:Operand}{x y:V}{u v:Value}{b:Bool}(hs:SR E S w)(hx:VR E x u)(hy:VR E y v)(h:eqV x y=some b)(hk:qgd P t x y=true)(ho:op=.eql∨op=.neq):
  Sim P E S w (do eqGuard op t ox oy u v;binOp op t u v) (.bool (if op=.eql then b else !b)) S:=by
 have h1:(Op.equal t u v).run P w=.ok b w:=qil 9999 hx hy h hk;obtain ⟨h2,h3,h4,h5⟩:=qmB hx hy h;refine Sim.pure hs (d:=.bool (if op=.eql then b else !b)) ?_ (.bool _);simp only[Sem.run_bind,qdX h2 h3,Result.andThen];rcases ho with rfl|rfl
 ·rw[h4 t];simp[h1,Result.andThen]
 ·rw[h5 t];simp[h1,Result.andThen]
def unV(op:UnOp)(x:V):Option V:=
 match op,x with
 | .neg,.int k n=>some (.int k (k.wrap (0 - n)))
 | .not,.bool b=>some (.bool !b)
 | .xor,.int k n=>(bits .xor k (if k.signed then -1 else k.max) n).map (.int k)
 | _,_=>none
theorem qr3{E:En}{S:St}{P:Program}{w:World}{op:UnOp}{x r:V}{u:Value}(hs:SR E S w)(hx:VR E x u)(h:unV op x=some r):Sim P E S w (Op.unary op u) r S:=by
 unfold unV at h;split at h <;> cases h <;> cases hx
 ·exact Sim.pure hs (by simp[Op.unary,Op.intArith]) (.int _ _)
 ·exact Sim.pure hs (by simp[Op.unary]) (.bool _)
 ·exact Sim.pure hs (by simp[Op.unary,Op.intBits]) (.int _ _)
def lenV(x:V):Option V:=
 match x with
 | .sl _ xs=>some (.int .i64 xs.length)
 | .arr _ _ len _=>some (.int .i64 len)
 | .str s=>some (.int .i64 s.size)
 | _=>none
mutual
def V.under(m:Nat):V→Bool
 | .ptr l _ _ _=>decide (l<m)
 | .arr l _ _ _=>decide (l<m)
 | .map l=>decide (l<m)
 | .yld l=>decide (l<m)
 | .iptr v _=>V.under m v
 | .sl _ xs=>V.underL m xs
 | .fn f fs cs=>(match f with|.yield _=>false|_=>true) && V.underL m fs && V.underL m cs
 | .iface _ v=>V.under m v
 | .agg cs=>V.underL m cs
 | .tup cs=>V.underL m cs
 | _=>true
def V.underL(m:Nat):List V→Bool
 | []=>true
 | v::vs=>V.under m v && V.underL m vs
end
theorem qbL{m:Nat}:∀{xs:List V},V.underL m xs=true→∀v,v∈xs→v.under m=true
 | [],_,v,hv=>by simp at hv
 | x::xs,h,v,hv=>by
  simp only[V.underL,qtJ] at h;rcases quc.1 hv with rfl|hv
  ·exact h.1
  ·exact qbL h.2 v hv
theorem qfe{m:Nat}:∀{xs:List V},(∀v,v∈xs→v.under m=true)→V.underL m xs=true
 | [],_=>rfl
 | x::xs,h=>by
  simp only[V.underL,qtJ];exact ⟨h x (by simp),qfe fun v hv=>h v (by simp[hv])⟩
theorem qdM{m:Nat}{v c:V}{j:Nat}(h:v.under m=true)(hc:v.cells[j]?=some c):c.under m=true:=by
 by_cases ha:∃cs,v=.agg cs
 ·obtain ⟨cs,rfl⟩:=ha;simp only[V.under] at h;exact qbL h c (qtP hc)
 ·have:v.cells=[v]:=by
   cases v <;> first|rfl|exact absurd ⟨_,rfl⟩ ha
  rw[this] at hc
  cases j with
  | zero=>simp at hc;subst hc;exact h
  | succ j=>simp at hc
def En.cut(E:En)(m:Nat):En:={ E with ρ:=fun l st=>if l<m then E.ρ l st else none }
theorem VR.cut{E:En}{m:Nat}{v:V}{u:Value}(r:VR E v u):v.under m=true→VR (E.cut m) v u:=by
 induction r with
 | top u=>intro _;exact .top u
 | bool b=>intro _;exact .bool b
 | int k n=>intro _;exact .int k n
 | str s=>intro _;exact .str s
 | nilp=>intro _;exact .nilp
 | ptr i off hr=>intro h;simp[V.under] at h;exact .ptr i off (by simp[En.cut,h,hr])
 | glob g off=>intro _;exact .glob g off
 | iptr off hI _ ih=>intro h;simp only[V.under] at h;exact .iptr off hI fun j c' c hc hi=>ih j c' c hc hi (qdM h hc)
 | slnil x=>intro _;exact .slnil x
 | slz x a=>intro _;exact .slz x a
 | sl hc hx hs hI _ ih=>intro h;simp only[V.under] at h;exact .sl hc hx hs hI fun i v j c' c hv hcc hi=>ih i v j c' c hv hcc hi (qdM (qbL h v (qtP hv)) hcc)
 | arr hr hN hc=>intro h;simp[V.under] at h;exact .arr (by simp[En.cut,h,hr]) hN hc
 | nilmap=>intro _;exact .nilmap
 | map hr=>intro h;simp[V.under] at h;exact .map (by simp[En.cut,h,hr])
 | fn h1 h2 _ _ ih1 ih2=>
  intro h;simp only[V.under,qtJ] at h;exact .fn h1 h2 (fun i v u hv hu=>ih1 i v u hv hu (qbL h.1.2 v (qtP hv))) (fun i v u hv hu=>ih2 i v u hv hu (qbL h.2 v (qtP hv)))
 | nilfn=>intro _;exact .nilfn
 | iface t _ ih=>intro h;simp only[V.under] at h;exact .iface t (ih h)
 | niliface=>intro _;exact .niliface
 | yld hr=>intro hb;simp only[V.under,decide_eq_true_eq] at hb;exact .yld (by simp[En.cut,hb,hr])
 | agg hl _ ih=>intro h;simp only[V.under] at h;exact .agg hl fun i v u hv hu=>ih i v u hv hu (qbL h v (qtP hv))
 | tup hl _ ih=>intro h;simp only[V.under] at h;exact .tup hl fun i v u hv hu=>ih i v u hv hu (qbL h v (qtP hv))
def Ob.under(m:Nat):Ob→Bool
 | .arr xs _ _=>V.underL m xs
 | .map es _ _=>es.all fun p=>p.1.under m && p.2.under m
 | .iter lm _ _ _=>decide (lm<m)
 | .dead=>true
 | .loop i=>i.e.all fun p=>p.2.under m
theorem SR.cut{E:En}{S:St}{w:World}(h:SR E S w){m:Nat}(hb:∀o,o∈S.take m→o.under m=true)(hm:m≤S.length):SR (E.cut m) (S.take m) w∧(∀n,n≤m→Ext n E S w (E.cut m) (S.take m) w):=by
 have hlen:(S.take m).length=m:=by simp;omega
 have hlv:∀l,live (S.take m) l→live S l∧l<m:=fun l hl=>by
  have:=qeM hl;rw[hlen] at this;obtain ⟨o,ho,hd⟩:=hl;exact ⟨⟨o,by rw[qt9 this] at ho;exact ho,hd⟩,this⟩
 have hρ:∀l st x,(E.cut m).ρ l st=some x→l<m∧E.ρ l st=some x:=fun l st x hx=>by
  simp only[En.cut] at hx;split at hx
  ·exact ⟨‹_›,hx⟩
  ·cases hx
 have hown:∀b,own (E.cut m) (S.take m) b→own E S b:=fun b ⟨l,st,x,hl,hx,he⟩=>⟨l,st,x,(hlv l hl).1,(hρ l st x hx).2,he⟩
 have hold:∀{w':World} {x:Blk} {xs:List V} {n:Nat},V.underL m xs=true→qh9 E w' x xs n→qh9 (E.cut m) w' x xs n:=by
  intro w' x xs n hbl hh;obtain ⟨C,t,h1,h2,h3,h4⟩:=hh;refine ⟨C,t,h1,h2,h3,fun i v hv hi j c' hc=>?_⟩;obtain ⟨c,hc1,hc2⟩:=h4 i v hv hi j c' hc;exact ⟨c,hc1,hc2.cut (qdM (qbL hbl v (qtP hv)) hc)⟩
 refine ⟨⟨⟨h.gl.1,h.gl.2⟩,h.I,?_,?_,?_,?_,?_⟩,fun n hn=>⟨qtH _,fun _ _ _ hc=>hc,fun l st x hl hx=>by simp only[En.cut];rw[if_pos (by omega)];exact hx,fun l hl hx st=>by
   simp only[En.cut];split
   ·exact hx st
   ·rfl,fun b hb=>.inl (hown b hb),fun b o c hc=>.inl hc,fun _ _ _=>rfl,rfl⟩⟩
 ·intro l o ho;have hlt:l<m:=by have:=(qtB.1 ho).1;rw[hlen] at this;exact this
  have hbo:=hb o (qtP ho);rw[qt9 hlt] at ho;have:=h.obs l o ho
  cases o with
  | arr xs sz wr=>
   obtain ⟨h0,h1,h2⟩:=this;refine ⟨h0,h1,fun st x hx hwr=>?_⟩;obtain ⟨a,b,c⟩:=h2 st x (hρ l st x hx).2 hwr;exact ⟨a,b,hold hbo c⟩
  | iter lm since seen last=>
   obtain ⟨x,y,h1,h2,h3⟩:=this;simp only[Ob.under,decide_eq_true_eq] at hbo;exact ⟨x,y,by simp[En.cut,hlt,h1],by simp[En.cut,hbo,h2],h3⟩
  | map es bs ck=>
   obtain ⟨x,entries,h1,h2,h3,h5,h4⟩:=this;refine ⟨x,entries,by simp[En.cut,hlt,h1],h2,h3,h5,fun i k v e hk he=>?_⟩;obtain ⟨a,b⟩:=h4 i k v e hk he;simp only[Ob.under,qtY,qtJ] at hbo;have:=hbo (k,v) (qtP hk);exact ⟨a.cut this.1,b.cut this.2⟩
  | dead=>trivial
  | loop i=>
   obtain ⟨x,r,h1,h2,h3,h4,h5,h6,h7,h8,h9⟩:=this;refine ⟨x,r,by simp[En.cut,hlt,h1],h2,h3,h4,h5,h6,h7,h8,fun t v hv=>?_⟩;obtain ⟨u,hu,hr⟩:=h9 t v hv;simp only[Ob.under,qtY] at hbo;exact ⟨u,hu,hr.cut (hbo (t,v) (Env.get_mem hv))⟩
 ·intro l st x hx;rw[hlen];exact (hρ l st x hx).1
 ·intro b o hb';exact h.apart b o (hown b hb')
 ·intro b hb';exact h.lt b (hown b hb')
 ·intro l l' st st' x x' hl hl' hx hx' he;exact h.inj l l' st st' x x' (hlv l hl).1 (hlv l' hl').1 (hρ l st x hx).2 (hρ l' st' x' hx').2 he
theorem qiz{E E':En}{S:St}{l b:Nat}(hρ:E'.ρ=E.ρ)(h:own E' (S.set l .dead) b):own E S b∧∀st x,live S l→E.ρ l st=some x→(∀l' st' x',live S l'→E.ρ l' st'=some x'→x'.b=x.b→l'=l)→x.b≠b:=by
 obtain ⟨l',st,x,hl,hx,rfl⟩:=h;rw[hρ] at hx
 have hne:l'≠l:=by
  rintro rfl;obtain ⟨o,ho,hd⟩:=hl;rcases qva l' S.length with hlt|hge
  ·rw[qtE hlt] at ho;cases ho;exact hd rfl
  ·rw[qur (by simp;omega)] at ho;cases ho
 have hlv:live S l':=by
  obtain ⟨o,ho,hd⟩:=hl;rw[qtG (Ne.symm hne)] at ho;exact ⟨o,ho,hd⟩
 exact ⟨⟨l',st,x,hlv,hx,rfl⟩,fun st' x' _ hx' hinj e=>hne (hinj l' st x hlv hx e.symm)⟩
theorem SR.freeze{E:En}{S:St}{w:World}(h:SR E S w){l off len st sz wr:Nat}{xs:List V}{u:Value}(ho:S[l]?=some (.arr xs sz wr))(hwr:wr≤st)(hv:VR E (.arr l off len st) u)(hle:off+len≤st):
  ∃E',SR E' (S.set l .dead) w∧(∀n,Ext n E S w E' (S.set l .dead) w)∧E.le E'∧VR E' (.sl false ((xs.drop off).take len)) u:=by
 cases hv with
 | arr hr hN hc=>
  rename_i cap x;obtain ⟨h0,h1,h2⟩:=h.obs l _ ho;obtain ⟨g1,g2,C,t,g3,g4,g5,g6⟩:=h2 st x hr hwr;have hlive:live S l:=⟨_,ho,by simp⟩;have hbo:own E S x.b:=⟨l,st,x,hlive,hr,rfl⟩
  let E':En:={ E with I:=fun b o=>if b=x.b∧off * x.sz≤o∧o<(off+len) * x.sz then C[o]? else E.I b o }
  have hle':E.le E':=⟨fun b o c hc=>by
   simp only[E'];split
   ·rename_i hk;obtain ⟨rfl,_⟩:=hk;rw[h.apart x.b o hbo] at hc;cases hc
   ·exact hc,fun _ _ _ h=>h⟩
  have hρ:E'.ρ=E.ρ:=rfl;have hinj:∀l' st' x',live S l'→E.ρ l' st'=some x'→x'.b=x.b→l'=l:=fun l' st' x' hl' hx' he=>h.inj l' l st' st x' x hl' hlive hx' hr he
  refine ⟨E',⟨h.gl.old hle'.1 (fun _ _ _ _ _ _=>rfl),?_,?_,?_,?_,?_,?_⟩,fun n=>⟨qtH _,hle'.1,fun l st x _ hx=>hx,fun _ _ hx=>hx,fun b hb=>.inl (qiz hρ hb).1,?_,fun _ _ _=>rfl,rfl⟩,hle',?_⟩
  ·intro b o c hc;simp only[E'] at hc;split at hc
   ·rename_i hk;obtain ⟨rfl,_⟩:=hk;rw[cell?_of g3];exact hc
   ·exact h.I b o c hc
  ·intro l' o' hl';by_cases hk:l'=l
   ·subst hk;rw[qtE (qeM hlive)] at hl';cases hl';trivial
   ·rw[qtG (Ne.symm hk)] at hl';exact (h.obs l' o' hl').mono hle' (fun _ _ hx=>hx) (fun _ _ _=>rfl)
  ·intro l' st' x' hx';simpa using h.dom l' st' x' hx'
  ·intro b o hb;obtain ⟨hb1,hb2⟩:=qiz hρ hb;have hne:=hb2 st x hlive hr hinj;simp only[E'];rw[if_neg (fun hk=>hne hk.1.symm)];exact h.apart b o hb1
  ·intro b hb;exact h.lt b (qiz hρ hb).1
  ·intro l1 l2 st1 st2 x1 x2 hl1 hl2 hx1 hx2 he;have key:∀l',live (S.set l .dead) l'→live S l':=fun l' hl'=>qce hl' hlive
   exact h.inj l1 l2 st1 st2 x1 x2 (key l1 hl1) (key l2 hl2) hx1 hx2 he
  ·intro b o c hc;simp only[E'] at hc;split at hc
   ·rename_i hk;obtain ⟨rfl,_⟩:=hk;exact .inr (.inl hbo)
   ·exact .inl hc
  ·have hlen:((xs.drop off).take len).length=len:=by simp;omega
   have hget:∀(i:Nat) (v:V),((xs.drop off).take len)[i]?=some v→xs[off+i]?=some v∧i<len:=fun i v hv=>by
    have hi:=(qtB.1 hv).1;rw[hlen] at hi;rw[qt9 hi,qun] at hv;exact ⟨hv,hi⟩
   have hmem:∀v,v∈(xs.drop off).take len→v.cells.length=x.sz:=fun v hv=>by rw[g2];exact h1 v (List.mem_of_mem_drop (List.mem_of_mem_take hv))
   have hrow:∀i j,i<len→j<x.sz→off * x.sz≤off * x.sz+i * x.sz+j∧off * x.sz+i * x.sz+j<(off+len) * x.sz:=fun i j hi hj=>by
    have:(i+1) * x.sz≤len * x.sz:=qut _ hi;rw[quq] at this;rw[quq];omega
   have:=VR.sl (E:=E') (x:=false) (xs:=(xs.drop off).take len) (b:=x.b) (o:=off * x.sz) (cap:=cap) (sz:=x.sz) (by rw[hlen];exact hc) (fun h=>by cases h) hmem
    (fun i j hi hj=>by
     rw[hlen] at hi;simp only[E'];rw[if_pos ⟨trivial,hrow i j hi hj⟩];have hx:xs[off+i]?=some (xs[off+i]'(by omega)):=by simp
     have hcl:(xs[off+i]'(by omega)).cells.length=x.sz:=by rw[g2];exact h1 _ (qtM _)
     obtain ⟨c,hc1,_⟩:=g6 (off+i) _ hx (by omega) j (xs[off+i]'(by omega)).cells[j] (by simp);rw[show off * x.sz+i * x.sz+j=(off+i) * x.sz+j by rw[quq],hc1];rfl)
    (fun i v j c' c hv hcc hi=>by
     obtain ⟨hv',hi'⟩:=hget i v hv;have hj:j<x.sz:=by rw[←hmem v (qtP hv)];exact (qtB.1 hcc).1
     obtain ⟨d,hd1,hd2⟩:=g6 (off+i) v hv' (by omega) j c' hcc;simp only[E'] at hi;rw[if_pos ⟨trivial,hrow i j hi' hj⟩,show off * x.sz+i * x.sz+j=(off+i) * x.sz+j by rw[quq],hd1] at hi;cases hi;exact hd2.mono hle')
   rw[hlen] at this;exact this
inductive KeyKd where
 | str
 | int (k:IntKind)
 deriving DecidableEq,Inhabited
def qfY:KeyKd→V→V→Option Bool
 | .str,.str a,.str b=>some (a.data.toList==b.data.toList)
 | .int k,.int j a,.int j' b=>if j=k∧j'=k then some (a==b) else none
 | _,_,_=>none
def qcq(kd:KeyKd)(k:V):List (V×V)→Nat→Option (Option (Nat×V))
 | [],_=>some none
 | (k',v)::es,i=>match qfY kd k k' with
  | some true=>some (some (i,v))
  | some false=>qcq kd k es (i+1)
  | none=>none
def qeJ(P:Program)(t:TypeId):Option KeyKd:=
 match P.underlying t with
 | some .string=>some .str
 | some (.int k)=>some (.int k)
 | _=>none
def qf1(kd:KeyKd):V→Bool
 | .str _=>kd==.str
 | .int k _=>kd==.int k
 | _=>false
def qdu(E:En)(es:List (V×V))(l:List MapEntry):Prop:=es.length=l.length∧∀(i:Nat) (k v:V) (e:MapEntry),es[i]?=some (k,v)→l[i]?=some e→VR E k e.key∧VR E v e.val
theorem qhk{E:En}{P:Program}{kd:KeyKd}{t:TypeId}{d:TypeDesc}(ht:qeJ P t=some kd)(hd:P.underlying t=some d){x y:V}{u v:Value}{b:Bool}(hx:VR E x u)(hy:VR E y v)(h:qfY kd x y=some b):
  Instr.sameNow d u v=some b∧MapKept.IsKey d u:=by
 unfold qeJ at ht;rw[hd] at ht;split at ht <;> simp only[Option.some.injEq,reduceCtorEq] at ht <;> rename_i he <;> cases he <;> subst ht
 ·cases hx <;> cases hy <;> simp only[qfY,reduceCtorEq,Option.some.injEq] at h;rename_i a b';refine ⟨?_,trivial⟩;simp only[Instr.sameNow,Option.some.injEq];rw[←h,qui,MapKept.bytes_beq];obtain ⟨x⟩:=a;obtain ⟨y⟩:=b';simp
 ·cases hx <;> cases hy <;> simp only[qfY,reduceCtorEq] at h;split at h <;> cases h;rename_i hk;obtain ⟨rfl,rfl⟩:=hk;exact ⟨by simp[Instr.sameNow],rfl⟩
theorem qfP{E:En}{P:Program}{kd:KeyKd}{t:TypeId}{d:TypeDesc}(ht:qeJ P t=some kd)(hd:P.underlying t=some d){x:V}{u:Value}(hx:VR E x u)(h:qf1 kd x=true):MapKept.IsKey d u:=by
 unfold qeJ at ht;rw[hd] at ht;split at ht <;> simp only[Option.some.injEq,reduceCtorEq] at ht <;> rename_i he <;> cases he <;> subst ht
 ·cases hx <;> simp[qf1] at h;trivial
 ·cases hx <;> simp[qf1] at h;exact h.symm
theorem qbG{E:En}{P:Program}{kd:KeyKd}{t:TypeId}{d:TypeDesc}(ht:qeJ P t=some kd)(hd:P.underlying t=some d){x:V}{u:Value}(hx:VR E x u):∀(es:List (V×V)) (l:List MapEntry) (i:Nat) (r:Option (Nat×V)),qdu E es l→qcq kd x es i=some r→
  (r=none∧Instr.findNow d u l i=some none)∨∃j v e,r=some (i+j,v)∧Instr.findNow d u l i=some (some (i+j,e.val))∧VR E v e.val∧l[j]?=some e∧VR E x e.key∧j<es.length∧Instr.sameNow d u e.key=some true
 | [],l,i,r,hr,h=>by
  have:l=[]:=qt6 (by have:=hr.1;simp at this;omega);subst this;simp only[qcq,Option.some.injEq] at h;exact .inl ⟨h.symm,rfl⟩
 | (k,v)::es,l,i,r,hr,h=>by
  match l,hr with
  | [],hr=>exact absurd hr.1 (by simp)
  | e::l,hr=>
   obtain ⟨h1,h2⟩:=hr.2 0 k v e rfl rfl;simp only[qcq] at h;split at h
   ·rename_i hk;obtain ⟨s1,s2⟩:=qhk ht hd hx h1 hk;cases h;refine .inr ⟨0,v,e,rfl,by simp[Instr.findNow,s1],h2,rfl,?_,by simp,s1⟩;unfold qeJ at ht;rw[hd] at ht;split at ht <;> simp only[Option.some.injEq,reduceCtorEq] at ht <;> rename_i he <;> cases he <;> subst ht
    ·cases hx <;> generalize hek:e.key=ek at * <;> cases h1 <;> simp only[qfY,reduceCtorEq,Option.some.injEq] at hk;rename_i a b;obtain ⟨x⟩:=a;obtain ⟨y⟩:=b;simp at hk;subst hk;exact .str _
    ·cases hx <;> generalize hek:e.key=ek at * <;> cases h1 <;> simp only[qfY,reduceCtorEq] at hk;split at hk
     ·rename_i hkk;obtain ⟨rfl,rfl⟩:=hkk;simp at hk;subst hk;exact .int _ _
     ·cases hk
   ·rename_i hk;obtain ⟨s1,s2⟩:=qhk ht hd hx h1 hk;have hr':qdu E es l:=⟨by have:=hr.1;simp at this;exact this,fun j k' v' e' hj hj'=>hr.2 (j+1) k' v' e' (by simpa using hj) (by simpa using hj')⟩;rcases qbG ht hd hx es l (i+1) r hr' h with ⟨g1,g2⟩|⟨j,v',e',g1,g2,g3,g4,g5,g6,g7⟩
    ·exact .inl ⟨g1,by simp[Instr.findNow,s1,g2]⟩
    ·refine .inr ⟨j+1,v',e',by rw[g1];simp;omega,by simp only[Instr.findNow,s1,g2];simp;omega,g3,by simpa using g4,g5,by simp;omega,g7⟩
   ·cases h
def qnu(S:St):V→Option (List (V×V))
 | .nilmap=>some []
 | .map l=>match S[l]? with
  | some (.map es _ _)=>some es
  | _=>none
 | _=>none
def lkpV(S:St)(kd:KeyKd)(z:V)(ok:Bool)(x k:V):Option V:=
 if qf1 kd k=true then match qnu S x with
  | some es=>match qcq kd k es 0 with
   | some (some (_,v))=>some (if ok then .tup [v,.bool true] else v)
   | some none=>some (if ok then .tup [z,.bool false] else z)
   | none=>none
  | none=>none
 else none
def qet(P:Program)(t:TypeId):Option (KeyKd×TypeId×TypeId):=
 match P.underlying t with
 | some (.map k e)=>(qeJ P k).map fun kd=>(kd,k,e)
 | _=>none
theorem qjQ{E:En}{S:St}{P:Program}{w:World}{x k r z:V}{u ku:Value}{t kt et:TypeId}{kd:KeyKd}{ok:Bool}{i:TypeInfo}{zv:Value}(hs:SR E S w)(ht:qet P t=some (kd,kt,et))(hi:P.info? et=some i)(hz:i.zero=some zv)(hzz:VR E z zv)(hx:VR E x u)(hk:VR E k ku)(h:lkpV S kd z ok x k=some r):
  Sim P E S w (Instr.lookup t u ku ok) r S:=by
 unfold qet at ht;split at ht <;> try cases ht
 rename_i k' e' hu
 cases hkk:qeJ P k' with
 | none=>rw[hkk] at ht;cases ht
 | some kd'=>
  rw[hkk] at ht;simp only[qtU,Option.some.injEq,Prod.mk.injEq] at ht;obtain ⟨rfl,rfl,rfl⟩:=ht
  have hd:∃d,P.underlying k'=some d:=by
   unfold qeJ at hkk
   cases hd:P.underlying k' with
   | none=>rw[hd] at hkk;cases hkk
   | some d=>exact ⟨d,rfl⟩
  obtain ⟨d,hd⟩:=hd;unfold lkpV at h;split at h
  case isFalse=>cases h
  rename_i hki;have hkey:=qfP hkk hd hk hki;split at h <;> try cases h
  rename_i es hes
  have hent:∃l:Array MapEntry,qdu E es l.toList∧((u=.map none∧l=#[])∨∃b clock,u=.map (some b)∧w.heap[b]?=some (.map l clock)):=by
   cases hx <;> simp only[qnu,reduceCtorEq,Option.some.injEq] at hes
   ·subst hes;exact ⟨#[],⟨rfl,fun i k v e h=>by simp at h⟩,.inl ⟨rfl,rfl⟩⟩
   ·rename_i l y hy;split at hes <;> cases hes;rename_i hl;obtain ⟨y',entries,h1,h2,h3,_,h4⟩:=hs.obs l _ hl;rw[hy] at h1;cases h1;exact ⟨entries,⟨by simpa using h3,fun i k v e hk he=>h4 i k v e hk (by simpa using he)⟩,.inr ⟨_,_,rfl,h2⟩⟩
  obtain ⟨l,hl,hform⟩:=hent;have hck:(Instr.checkKey l.isEmpty 10000 k' ku).run P w=.ok () w:=MapKept.run_checkKey hd hkey _ _;split at h <;> try cases h
  ·rename_i j v hf;rcases qbG hkk hd hk es l.toList 0 _ hl hf with ⟨g1,_⟩|⟨j',v',e,g1,g2,g3,_⟩
   ·cases g1
   ·simp only[Option.some.injEq,Prod.mk.injEq] at g1;obtain ⟨rfl,rfl⟩:=g1;have hfk:=MapKept.run_findKey (P:=P) (w:=w) hd g2;refine ⟨if ok then .tuple #[e.val,.bool true] else e.val,E,w,?_,?_,hs,Ext.refl _ _ _ _,qtH _⟩
    ·rcases hform with ⟨rfl,rfl⟩|⟨b,clock,rfl,hb⟩
     ·simp only[Instr.lookup,Sem.run_bind,qad hu,Result.andThen,Sem.run_pure,hck,hfk]
     ·simp only[Instr.lookup,Sem.run_bind,qad hu,Result.andThen,MapKept.run_getObj_map hb,Sem.run_pure,hck,hfk]
    ·cases ok
     ·exact g3
     ·refine .tup rfl fun i v u hv hu=>?_
      match i with
      | 0=>simp at hv hu;subst hv;subst hu;exact g3
      | 1=>simp at hv hu;subst hv;subst hu;exact .bool _
      | i+2=>simp at hv
  ·rename_i hf;rcases qbG hkk hd hk es l.toList 0 _ hl hf with ⟨_,g2⟩|⟨j',v',e,g1,_⟩
   ·have hfk:=MapKept.run_findKey (P:=P) (w:=w) hd g2;refine ⟨if ok then .tuple #[zv,.bool false] else zv,E,w,?_,?_,hs,Ext.refl _ _ _ _,qtH _⟩
    ·rcases hform with ⟨rfl,rfl⟩|⟨b,clock,rfl,hb⟩
     ·simp only[Instr.lookup,Sem.run_bind,qad hu,Result.andThen,Sem.run_pure,hck,hfk,qaW hi hz]
     ·simp only[Instr.lookup,Sem.run_bind,qad hu,Result.andThen,MapKept.run_getObj_map hb,Sem.run_pure,hck,hfk,qaW hi hz]
    ·cases ok
     ·exact hzz
     ·refine .tup rfl fun i v u hv hu=>?_
      match i with
      | 0=>simp at hv hu;subst hv;subst hu;exact hzz
      | 1=>simp at hv hu;subst hv;subst hu;exact .bool _
      | i+2=>simp at hv
   ·cases g1
theorem qiu{E:En}{S:St}{P:Program}{w:World}{t:TypeId}(hs:SR E S w):Sim P E S w (Instr.makeMap t none) (.map S.length) (S++[.map [] [] 0]):=by
 have hno:∀st,E.ρ S.length st=none:=fun st=>by
  cases hr:E.ρ S.length st with
  | none=>rfl
  | some x=>exact absurd (hs.dom _ _ _ hr) (by omega)
 obtain ⟨n1,n2⟩:=hs.new (o:=.map #[] 0) (ob:=.map [] [] 0) (st:=0) (N:=0) (sz:=0) ⟨⟨w.heap.size,0,0⟩,#[],qa8,qcT,rfl,rfl,fun i k v e h=>by simp at h⟩;refine ⟨.map (some w.heap.size),_,_,?_,?_,n1,n2,by simp⟩
 ·simp[Instr.makeMap,newObj,Sem.run,Result.andThen]
 ·exact VR.map (x:=⟨w.heap.size,0,0⟩) qa8
def mupS(S:St)(kd:KeyKd)(x k v:V):Option St:=
 if qf1 kd k=true then match x with
  | .map l=>match S[l]? with
   | some (.map es bs ck)=>match qcq kd k es 0 with
    | some (some (i,_))=>some (S.set l (.map (es.set i (k,v)) bs ck))
    | some none=>some (S.set l (.map (es++[(k,v)]) (bs++[ck]) (ck+1)))
    | none=>none
   | _=>none
  | _=>none
 else none
theorem qeh{E:En}{S S':St}{P:Program}{w:World}{x k v:V}{u ku vu:Value}{t kt et:TypeId}{kd:KeyKd}(hs:SR E S w)(ht:qet P t=some (kd,kt,et))(hx:VR E x u)(hk:VR E k ku)(hv:VR E v vu)(h:mupS S kd x k v=some S'):
    ∃E' w',(Instr.mapUpdate t u ku vu).run P w=.ok () w'∧SR E' S' w'∧Ext S.length E S w E' S' w'∧S.length≤S'.length:=by
  unfold qet at ht;split at ht <;> try cases ht
  rename_i k' e' hu
  cases hkk:qeJ P k' with
  | none=>rw[hkk] at ht;cases ht
  | some kd'=>
    rw[hkk] at ht;simp only[qtU,Option.some.injEq,Prod.mk.injEq] at ht;obtain ⟨rfl,rfl,rfl⟩:=ht
    have hd:∃d,P.underlying k'=some d:=by
      unfold qeJ at hkk
      cases hd:P.underlying k' with
      | none=>rw[hd] at hkk;cases hkk
      | some d=>exact ⟨d,rfl⟩
    obtain ⟨d,hd⟩:=hd;unfold mupS at h;split at h
    case isFalse=>cases h
    rename_i hki;have hkey:=qfP hkk hd hk hki;split at h <;> try cases h
    rename_i l;split at h <;> try cases h
    rename_i es bs clock hl
    cases hx with
    | map hy=>
      rename_i y;obtain ⟨y',entries,h1,hb,h3,hbs,h4⟩:=hs.obs l _ hl;rw[hy] at h1;cases h1;have hlive:live S l:=⟨_,hl,by simp⟩;have hent:qdu E es entries.toList:=⟨by simpa using h3,fun i k v e hk he=>h4 i k v e hk (by simpa using he)⟩;have hck:(Instr.checkKey false 10000 k' ku).run P w=.ok () w:=MapKept.run_checkKey hd hkey _ _;have put:∀(es':List (V×V)) (bs':List Nat) (ents':Array MapEntry) (clock':Nat),qdu E es' ents'.toList→bs'=ents'.toList.map (·.born)→
          ∃E' w',w'={ w with heap:=w.heap.setIfInBounds y.b (.map ents' clock') }∧SR E' (S.set l (.map es' bs' clock')) w'∧Ext S.length E S w E' (S.set l (.map es' bs' clock')) w':=by
        intro es' bs' ents' clock' he hbs';have hlt:y.b<w.heap.size:=(qtS.1 hb).1;have:=hs.change (E':=E) (w':={ w with heap:=w.heap.setIfInBounds y.b (.map ents' clock') }) (ob:=.map es' bs' clock') hlive rfl (En.le_refl E) (fun _ _ _=>rfl) (fun st z hz=>.inl ⟨st,z,hz,rfl⟩) (by simp)
          (fun b hb' hne=>by
            show (w.heap.setIfInBounds y.b _)[b]?=_;rw[qt5 (hne 0 y hy)]) rfl ⟨y,ents',hy,by simp[hlt],by simpa using he.1,hbs',fun i k v e hk he'=>he.2 i k v e hk (by simpa using he')⟩
        exact ⟨E,_,rfl,this.1,this.2⟩
      split at h <;> try cases h
      · rename_i i v0 hf;rcases qbG hkk hd hk es entries.toList 0 _ hent hf with ⟨g1,_⟩|⟨j,v',e,g1,g2,g3,g4,g5,g6,g7⟩
        · cases g1
        · simp only[Option.some.injEq,Prod.mk.injEq,quJ] at g1;obtain ⟨rfl,rfl⟩:=g1
          have hkeq:e.key=ku:=by
            have hx:=g5;cases hk <;> cases hkk':kd' <;> simp[qf1,hkk'] at hki <;> (generalize e.key=q at hx;cases hx;rfl)
          have hge:entries[i]?=some e:=by simpa using g4
          have hfk:=MapKept.run_findKey (P:=P) (w:=w) hd g2
          obtain ⟨E',w',rfl,q1,q2⟩:=put (es.set i (k,v)) bs (entries.modify i fun e=>{ e with key:=ku,val:=vu }) clock ⟨by simp[h3],fun j' k2 v2 e2 hk2 he2=>by
            have he2':(entries.modify i fun e=>{ e with key:=ku,val:=vu })[j']?=some e2:=by rw[←qve];exact he2
            rw[quP] at he2';by_cases hj:i=j'
            · subst hj;rw[qtE g6] at hk2;cases hk2;rw[if_pos rfl,hge] at he2';cases he2';exact ⟨hk,hv⟩
            · rw[qtG hj] at hk2;rw[if_neg hj] at he2'
              exact h4 j' k2 v2 e2 hk2 he2'⟩ (by
            rw[hbs];apply quQ;intro q;simp only[qtV,qve,quP];split
            · cases entries[q]? <;> rfl
            · rfl)
          refine ⟨E',_,?_,q1,q2,by simp⟩;simp[Instr.mapUpdate,qad hu,MapKept.run_getObj_map hb,hck,hfk,hge,hkeq,MapKept.run_keyThatStays hkey,MapKept.run_setObj_map _ hb,Result.andThen]
      · rename_i hf;rcases qbG hkk hd hk es entries.toList 0 _ hent hf with ⟨_,g2⟩|⟨j',v',e,g1,_⟩
        · have hfk:=MapKept.run_findKey (P:=P) (w:=w) hd g2
          obtain ⟨E',w',rfl,q1,q2⟩:=put (es++[(k,v)]) (bs++[clock]) (entries.push { key:=ku,val:=vu,born:=clock }) (clock+1) ⟨by simp[h3],fun j' k2 v2 e2 hk2 he2=>by
            have he2':(entries.push { key:=ku,val:=vu,born:=clock })[j']?=some e2:=by rw[←qve];exact he2
            rw[quA] at he2';by_cases hj:j'=entries.size
            · rw[if_pos hj] at he2';cases he2';rw[qtC (by omega),show j' - es.length=0 by omega] at hk2;simp at hk2;obtain ⟨rfl,rfl⟩:=hk2;exact ⟨hk,hv⟩
            · rw[if_neg hj] at he2';have:=(qtS.1 he2').1;rw[qtD (by omega)] at hk2;exact h4 j' k2 v2 e2 hk2 he2'⟩ (by rw[hbs];simp)
          refine ⟨E',_,?_,q1,q2,by simp⟩;simp[Instr.mapUpdate,qad hu,MapKept.run_getObj_map hb,hck,hfk,MapKept.run_setObj_map _ hb,Result.andThen]
        · cases g1
inductive CK where
 | b|i| s
 deriving DecidableEq,Inhabited
def qcK:CK→V→V→Option Bool
 | .b,.bool a,.bool b=>some (a==b)
 | .i,.int k a,.int k' b=>if k=k' then some (a==b) else none
 | .s,.str a,.str b=>some (a.data.toList==b.data.toList)
 | _,_,_=>none
def qbh(xs ys:List V):List (Nat×CK)→Option Bool
 | []=>some true
 | (o,c)::os=>match xs[o]?,ys[o]? with
  | some a,some b=>match qcK c a b with
   | some true=>qbh xs ys os
   | some false=>some false
   | none=>none
  | _,_=>none
def shift(off:Nat)(p:Nat×CK):Nat×CK:=(p.1+off,p.2)
def qfm(P:Program)(g:TypeId→Option (List (Nat×CK)))(size:Nat):List Field→Option (List (Nat×CK))
 | []=>some []
 | f :: fs => if f.name = "_" then none else match qa4 P f.type, g f.type, qfm P g size fs with
  | some k,some os,some es=>match k with
   | none=>if f.offset+1≤size∧os.all (fun o=>decide (o.1<1))=true then some (os.map (shift f.offset)++es) else none
   | some n=>if f.offset+n≤size∧os.all (fun o=>decide (o.1<n))=true then some (os.map (shift f.offset)++es) else none
  | _,_,_=>none
def qdH(P:Program):Nat→TypeId→Option (List (Nat×CK))
 | 0,_=>none
 | d+1,t=>match P.underlying t with
  | some .bool=>some [(0,.b)]
  | some (.int _)=>some [(0,.i)]
  | some .string=>some [(0,.s)]
  | some (.struct fs)=>if P.stoodInHeld t=true then none else match P.info? t with
   | some i=>qfm P (qdH P d) i.size fs.toList
   | none=>none
  | _=>none
theorem qcX{xs ys:List V}:∀{a b:List (Nat×CK)},qbh xs ys (a++b)=match qbh xs ys a with
  | some true=>qbh xs ys b
  | r=>r
 | [],b=>rfl
 | (o,c)::a,b=>by
  simp only[qtO,qbh];split
  ·split
   ·exact qcX
   ·rfl
   ·rfl
  ·rfl
theorem qgg{xs ys xs' ys':List V}{off:Nat}:∀{os:List (Nat×CK)},(∀o,o∈os→xs[o.1+off]?=xs'[o.1]?∧ys[o.1+off]?=ys'[o.1]?)→qbh xs ys (os.map (shift off))=qbh xs' ys' os
 | [],_=>rfl
 | (o,c)::os,h=>by
  obtain ⟨h1,h2⟩:=h (o,c) (by simp);simp only[qtW,qbh,shift,h1,h2];rw[qgg (os:=os) fun o ho=>h o (by simp[ho])]
theorem qfk{P:Program}{t:TypeId}{n:Nat}(h:qa4 P t=some (some n)):∃i,P.info? t=some i∧i.size=n:=by
 unfold qa4 at h;split at h
 ·cases hi:P.info? t with
  | none=>rw[hi] at h;cases h
  | some i=>rw[hi] at h;cases h;exact ⟨i,rfl,rfl⟩
 ·cases hi:P.info? t with
  | none=>rw[hi] at h;cases h
  | some i=>rw[hi] at h;cases h;exact ⟨i,rfl,rfl⟩
 ·cases h
 ·cases h
theorem qgN{P:Program}{t:TypeId}{d:Nat}{os:List (Nat×CK)}(hk:qa4 P t=some none)(h:qdH P d t=some os):(∃c,os=[(0,c)])∧∀fs,P.underlying t≠some (.struct fs):=by
 cases d with
 | zero=>cases h
 | succ d=>
  simp only[qdH] at h;split at h
  ·rename_i hd;cases h;exact ⟨⟨_,rfl⟩,fun fs=>by rw[hd];simp⟩
  ·rename_i hd;cases h;exact ⟨⟨_,rfl⟩,fun fs=>by rw[hd];simp⟩
  ·rename_i hd;cases h;exact ⟨⟨_,rfl⟩,fun fs=>by rw[hd];simp⟩
  ·rename_i fs hd;exfalso;simp only[qa4,hd] at hk;cases hi:P.info? t <;> rw[hi] at hk <;> cases hk
  ·cases h
theorem qjS{P:Program}{t:TypeId}{d n:Nat}{os:List (Nat×CK)}(hk:qa4 P t=some (some n))(h:qdH P d t=some os):∃fs,P.underlying t=some (.struct fs):=by
 cases d with
 | zero=>cases h
 | succ d=>
  simp only[qdH] at h;split at h
  ·rename_i hd;simp[qa4,hd] at hk
  ·rename_i hd;simp[qa4,hd] at hk
  ·rename_i hd;simp[qa4,hd] at hk
  ·rename_i fs hd;exact ⟨fs,hd⟩
  ·cases h
def qep(P:Program)(t:TypeId)(x:V):Prop:=match P.underlying t with
 | some (.struct _)=>x.isAgg=true∧∃i,P.info? t=some i∧x.cells.length=i.size
 | _=>x.isAgg=false
theorem qb4{x:V}(h:x.isAgg=false):x.cells=[x]:=by
 cases x <;> first|rfl|simp[V.isAgg] at h
theorem qhE{x:V}{off n:Nat}(ha:x.isAgg=true)(hle:off+n≤x.cells.length):∃r,x.part off (some n)=some r∧r.isAgg=true∧r.cells.length=n∧∀o,o<n→x.cells[o+off]?=r.cells[o]?:=by
 cases x <;> simp[V.isAgg] at ha;rename_i cs;simp only[V.cells] at hle;simp only[V.part];split
 ·rename_i h;obtain ⟨rfl,rfl,_⟩:=h;exact ⟨_,rfl,rfl,rfl,fun o _=>rfl⟩
 ·refine ⟨_,rfl,rfl,by simp[V.cells];omega,fun o ho=>?_⟩;simp only[V.cells];rw[qt9 ho,qun,Nat.add_comm]
theorem qsI{E:En}{P:Program}{w:World}:∀(d:Nat) (t:TypeId) (os:List (Nat×CK)) (x y:V) (u v:Value) (b:Bool),qdH P d t=some os→VR E x u→VR E y v→qep P t x→qep P t y→qbh x.cells y.cells os=some b→(Op.equalIn d t u v).run P w=.ok b w:=by
 intro d
 induction d with
 | zero=>intro t os x y u v b hc;cases hc
 | succ d ih=>
  intro t os x y u v b hc hx hy fx fy h;simp only[qdH] at hc;split at hc <;> try cases hc
  ·rename_i hd;simp only[qep,hd] at fx fy;rw[qb4 fx,qb4 fy] at h;simp only[qbh,quL] at h;cases hx <;> cases hy <;> simp[qcK] at h;simp only[Op.equalIn,Sem.run_bind,qad hd,Result.andThen,Sem.run_pure];rename_i p q;cases p <;> cases q <;> simp at h <;> subst h <;> rfl
  ·rename_i k hd;simp only[qep,hd] at fx fy;rw[qb4 fx,qb4 fy] at h;simp only[qbh,quL] at h;cases hx <;> cases hy <;> simp[qcK] at h;rename_i k1 p k2 q;simp only[Op.equalIn,Sem.run_bind,qad hd,Result.andThen];by_cases hk:k1=k2
   ·subst hk;simp at h;simp only[if_true,Sem.run_pure];by_cases hpq:p=q
    ·subst hpq;simp at h;subst h;simp
    ·have:(p==q)=false:=by simpa using hpq
     rw[this] at h ⊢;simp at h;subst h;rfl
   ·simp[hk] at h
  ·rename_i hd;simp only[qep,hd] at fx fy;rw[qb4 fx,qb4 fy] at h;simp only[qbh,quL] at h;cases hx <;> cases hy <;> simp only[qcK,reduceCtorEq] at h <;> try (cases h;done)
   rename_i p q;simp only[Op.equalIn,Sem.run_bind,qad hd,Result.andThen,Sem.run_pure]
   have hpq:(p==q)=(p.data.toList==q.data.toList):=by
    rw[qui,MapKept.bytes_beq];obtain ⟨x⟩:=p;obtain ⟨y⟩:=q;simp
   rw[hpq];cases hb:(p.data.toList==q.data.toList) <;> rw[hb] at h <;> simp at h <;> subst h <;> rfl
  ·rename_i fs hd;split at hc
   ·cases hc
   rename_i hs;split at hc <;> try cases hc
   rename_i i hi;simp only[qep,hd] at fx fy;obtain ⟨ax,ix,hix,lx⟩:=fx;obtain ⟨ay,iy,hiy,ly⟩:=fy;rw[hi] at hix hiy;cases hix;cases hiy;obtain ⟨cs,rfl⟩:∃cs,x=.agg cs:=by cases x <;> simp[V.isAgg] at ax;exact ⟨_,rfl⟩
   obtain ⟨ds,rfl⟩:∃cs,y=.agg cs:=by cases y <;> simp[V.isAgg] at ay;exact ⟨_,rfl⟩
   cases hx with
   | agg hl g=>
    rename_i us
    cases hy with
    | agg hl' g'=>
     rename_i vs;have hx:VR E (.agg cs) (.agg us):=.agg hl g;have hy:VR E (.agg ds) (.agg vs):=.agg hl' g';simp only[V.cells] at h lx ly;have hloop:∀(l:List Field) (os:List (Nat×CK)) (b:Bool),qfm P (qdH P d) i.size l=some os→qbh cs ds os=some b→
       (forIn (m:=Sem) l ((none,()):Option Bool×Unit) fun f __s=>
        if f.name ≠ "_" then do
         let __do_lift ←part f.type us f.offset
         let __do_lift_1 ←part f.type vs f.offset
         let __do_lift ←Op.equalIn d f.type __do_lift __do_lift_1
         if (!__do_lift)=true then pure (ForInStep.done (some false,()))
          else pure (ForInStep.yield (none,()))
        else pure (ForInStep.yield (none,()))).run P w=.ok (if b then none else some false,()) w:=by
      intro l
      induction l with
      | nil=>
       intro os b hc h;simp only[qfm,Option.some.injEq] at hc;subst hc;simp only[qbh,Option.some.injEq] at h;subst h;simp
      | cons f l ihl=>
       intro os b hc h;simp only[qfm] at hc;split at hc
       ·cases hc
       rename_i hname;split at hc <;> try cases hc
       rename_i k os1 es hk hg hes;have hparts:∃n px py,os1.all (fun o=>decide (o.1<n))=true∧os=os1.map (shift f.offset)++es∧(V.agg cs).part f.offset k=some px∧(V.agg ds).part f.offset k=some py∧qep P f.type px∧qep P f.type py∧
         (∀o,o<n→cs[o+f.offset]?=px.cells[o]?)∧(∀o,o<n→ds[o+f.offset]?=py.cells[o]?):=by
        cases k with
        | none=>
         simp only at hc;split at hc <;> cases hc;rename_i hcc;obtain ⟨hle,hall⟩:=hcc;obtain ⟨⟨c,rfl⟩,hns⟩:=qgN hk hg;rw[qcX] at h;simp only[qtW,quG,shift,qbh,quJ] at h;have h1:cs[f.offset]?=some (cs[f.offset]'(by omega)):=by simp
         have h2:ds[f.offset]?=some (ds[f.offset]'(by omega)):=by simp
         rw[h1,h2] at h;simp only at h
         have hagg:∀(c:CK) (p q:V),p.isAgg=true∨q.isAgg=true→qcK c p q=none:=by
          intro c p q hpq;cases c <;> cases p <;> cases q <;> first|rfl|simp[V.isAgg] at hpq
         have hfit:∀p:V,p.isAgg=false→qep P f.type p:=fun p hp=>by
          unfold qep;split
          ·rename_i fs' hfs;exact absurd hfs (hns fs')
          ·exact hp
         refine ⟨1,cs[f.offset]'(by omega),ds[f.offset]'(by omega),hall,rfl,h1,h2,hfit _ ?_,hfit _ ?_,fun o ho=>?_,fun o ho=>?_⟩
         ·cases ha:(cs[f.offset]'(by omega)).isAgg with
          | false=>rfl
          | true=>rw[hagg c _ _ (.inl ha)] at h;cases h
         ·cases ha:(ds[f.offset]'(by omega)).isAgg with
          | false=>rfl
          | true=>rw[hagg c _ _ (.inr ha)] at h;cases h
         ·have:o=0:=by omega
          subst this;rw[quJ,h1,qb4]
          ·rfl
          ·cases ha:(cs[f.offset]'(by omega)).isAgg with
           | false=>rfl
           | true=>rw[hagg c _ _ (.inl ha)] at h;cases h
         ·have:o=0:=by omega
          subst this;rw[quJ,h2,qb4]
          ·rfl
          ·cases ha:(ds[f.offset]'(by omega)).isAgg with
           | false=>rfl
           | true=>rw[hagg c _ _ (.inr ha)] at h;cases h
        | some n=>
         simp only at hc;split at hc <;> cases hc;rename_i hcc;obtain ⟨hle,hall⟩:=hcc;obtain ⟨px,p1,p2,p3,p4⟩:=qhE (x:=.agg cs) (off:=f.offset) (n:=n) rfl (by simp only[V.cells];omega);obtain ⟨py,q1,q2,q3,q4⟩:=qhE (x:=.agg ds) (off:=f.offset) (n:=n) rfl (by simp only[V.cells];omega);refine ⟨n,px,py,hall,rfl,p1,q1,?_,?_,p4,q4⟩
         all_goals
          obtain ⟨fs',hfs⟩:=qjS hk hg
          obtain ⟨i',hi',hn'⟩:=qfk hk
          simp only[qep,hfs]
         ·exact ⟨p2,i',hi',by omega⟩
         ·exact ⟨q2,i',hi',by omega⟩
       obtain ⟨n,px,py,hall,rfl,p1,p2,p3,p4,p5,p6⟩:=hparts;obtain ⟨pu,r1,r2⟩:=qeZ (P:=P) (w:=w) hk hx (by simp) p1;obtain ⟨pv,s1,s2⟩:=qeZ (P:=P) (w:=w) hk hy (by simp) p2;simp only[qtY,decide_eq_true_eq] at hall;rw[qcX,qgg (xs':=px.cells) (ys':=py.cells) fun o ho=>⟨p5 o.1 (hall o ho),p6 o.1 (hall o ho)⟩] at h;simp only[List.forIn_cons,ne_eq,hname,not_false_eq_true,if_true,Sem.run_bind,r1,s1,Result.andThen]
       cases he:qbh px.cells py.cells os1 with
       | none=>rw[he] at h;cases h
       | some bb=>
        rw[he] at h;have hrun:=ih f.type os1 px py pu pv bb hg r2 s2 p3 p4 he;simp only[hrun]
        cases bb with
        | true=>
         simp only at h;simp only[Bool.not_true,qua,if_false,Sem.run_pure];exact ihl es b hes h
        | false=>
         simp only[Option.some.injEq] at h;subst h;simp only[Bool.not_false,if_true,Sem.run_pure,qua,if_false]
     have:=hloop fs.toList os b hc h;simp only[Op.equalIn,Sem.run_bind,qad hd,Result.andThen,run_program,hs,qua,if_false];rw[←Array.forIn_toList,this];cases b <;> rfl
def mksS(S:St)(sz bytes:Nat)(z:V)(l c:Int):Option (V×St):=
 if 0≤l∧l≤c∧(bytes:Int) * c≤281474976710656∧c≤9223372036854775807∧0<sz∧z.size=sz∧(z.cells.all V.flat)=true then
  some (.arr S.length 0 l.toNat l.toNat,S++[.arr (List.replicate l.toNat z) sz l.toNat])
 else none
theorem qgF{E:En}{S S':St}{P:Program}{w:World}{z r:V}{t e:TypeId}{i:TypeInfo}{zv:Value}{kl kc:IntKind}{l c:Int}(hs:SR E S w)(ht:P.underlying t=some (.slice e))(hi:P.info? e=some i)(hz:i.zero=some zv)(hzz:VR E z zv)(h:mksS S i.size i.bytes z l c=some (r,S')):
  Sim P E S w (Instr.makeSlice t (.int kl l) (.int kc c)) r S':=by
 unfold mksS at h;split at h
 case isFalse=>cases h
 rename_i hc;obtain ⟨h1,h2,h3,h4,h5,h6,h7⟩:=hc;simp only[Option.some.injEq,Prod.mk.injEq] at h;obtain ⟨rfl,rfl⟩:=h;have hrun:=run_make (P:=P) w t e i zv ht hi hz kl kc l c h1 h2 h3 h4
 have hno:∀st,E.ρ S.length st=none:=fun st=>by
  cases hr:E.ρ S.length st with
  | none=>rfl
  | some x=>exact absurd (hs.dom _ _ _ hr) (by omega)
 obtain ⟨c1,c2⟩:=hzz.cells (qa2 h7);have hlc:l.toNat≤c.toNat:=by omega
 obtain ⟨n1,n2⟩:=hs.new (o:=.cells (madeCells zv.cells (c.toNat * i.size)) e (0,0)) (ob:=.arr (List.replicate l.toNat z) i.size l.toNat) (st:=l.toNat) (N:=c.toNat * i.size) (sz:=i.size) (by
  refine ⟨⟨h5,by simp⟩,fun v hv=>?_,fun st y hy hst=>?_⟩
  ·rw[List.mem_replicate] at hv;rw[hv.2];exact h6
  ·by_cases hs1:st=l.toNat
   ·subst hs1;rw[qa8] at hy;cases hy;refine ⟨by simp,rfl,_,e,qcT,size_madeCells _ _,qut _ hlc,fun j v hv hj q c' hc'=>?_⟩;have hv':=qtP hv;rw[List.mem_replicate] at hv';obtain ⟨_,rfl⟩:=hv';have hq:q<i.size:=by rw[←h6];exact (qtB.1 hc').1
    obtain ⟨d,hd,hdr⟩:=hzz.cells_ex (qa2 h7) hc'
    have hlt:j * i.size+q<c.toNat * i.size:=by
     have:(j+1) * i.size≤c.toNat * i.size:=qut _ (by omega);rw[quq] at this;omega
    refine ⟨d,?_,hdr.mono (qfp (hno _))⟩;have hsz:zv.cells.size=i.size:=by rw[←c1];exact h6
    simp only[madeCells,quU];rw[Array.getElem?_range,if_pos hlt];simp only[qtU,hsz];have hqs:=(qtS.1 hd);obtain ⟨hq1,hq2⟩:=hqs;rw[show (j * i.size+q) % i.size=q by rw[Nat.mul_comm,Nat.mul_add_mod,Nat.mod_eq_of_lt hq],getElem!_pos zv.cells q hq1,hq2]
   ·exfalso;simp only[En.at] at hy;rw[if_neg (by simp;exact hs1),hno] at hy;cases hy)
 refine ⟨_,_,_,hrun,?_,n1,n2,by simp⟩;have:=VR.arr (E:=E.at S.length l.toNat ⟨w.heap.size,c.toNat * i.size,i.size⟩) (l:=S.length) (off:=0) (len:=l.toNat) (cap:=c.toNat) (st:=l.toNat) qa8 (by simp) hlc;simpa using this
def iaaV(len sz:Nat)(p:V)(ix:Int):Option V:=if 0≤ix∧ix<len then faV p (ix.toNat * sz) else none
def qpI(P:Program)(t:TypeId):Option (Nat×Nat):=
 match P.underlying t with
 | some (.array n e)=>match P.info? e with
  | some i=>if i.size=0 then none else some (n,i.size)
  | none=>none
 | _=>none
theorem qqE{E:En}{S:St}{P:Program}{w:World}{p r:V}{u:Value}{t:TypeId}{k:IntKind}{n sz:Nat}{ix:Int}(hs:SR E S w)(hp:VR E p u)(ho:qpI P t=some (n,sz))(h:iaaV n sz p ix=some r):
  Sim P E S w (Instr.indexAt t u (.int k ix)) r S:=by
 unfold iaaV at h;split at h
 case isFalse=>cases h
 rename_i hix;obtain ⟨b,o,rfl,hr⟩:=hp.fa h;unfold qpI at ho;split at ho <;> try cases ho
 rename_i n' e hu;split at ho <;> try cases ho
 rename_i i hi;split at ho <;> cases ho;rename_i hz;refine Sim.pure hs ?_ hr;simp[Instr.indexAt,asIntOf,qad hu,Result.andThen,Instr.sureAddr,hix.1,hix.2,qa0 hi,qbF]
def bytesOf:List V→Option (List UInt8)
 | []=>some []
 | .int .u8 n::xs=>(bytesOf xs).map fun bs=>UInt8.ofNat n.toNat::bs
 | _=>none
def ctsV(S:St)(p:V):Option V:=
 (elems S p).bind fun xs=>(bytesOf xs).map fun bs=>.str ⟨bs.toArray⟩
theorem qeO:∀{xs:List V} {bs:List UInt8},bytesOf xs=some bs→∃ns:List Int,xs=ns.map (V.int .u8)∧bs=ns.map fun n=>UInt8.ofNat n.toNat
 | [],bs,h=>by cases h;exact ⟨[],rfl,rfl⟩
 | x::xs,bs,h=>by
  unfold bytesOf at h;split at h
  ·rename_i he;cases he
  ·rename_i n xs' he;cases he
   cases hb:bytesOf xs with
   | none=>rw[hb] at h;cases h
   | some bs'=>
    rw[hb] at h;cases h;obtain ⟨ns,h1,h2⟩:=qeO hb;exact ⟨n::ns,by rw[h1];rfl,by rw[h2];rfl⟩
  ·cases h
theorem qhf:∀(ns:List Int) (r:ByteArray),ns.foldl (fun r n=>r.push (UInt8.ofNat n.toNat)) r=⟨r.data++(ns.map fun n=>UInt8.ofNat n.toNat).toArray⟩
 | [],r=>by cases r;simp
 | n::ns,r=>by
  rw[List.foldl_cons,qhf ns];simp[ByteArray.push]
theorem qj2(ns:List Int):qbR (ns.map (V.int .u8))=ns.map (V.int .u8):=by
 induction ns with
 | nil=>rfl
 | cons n ns ih=>simp only[qbR,qtW,quz] at *;rw[ih];rfl
theorem qpK{E:En}{S:St}{P:Program}{w:World}{p r:V}{u:Value}{src dst e:TypeId}(hs:SR E S w)(hp:VR E p u)(h1:P.underlying src=some (.slice e))(h2:P.underlying e=some (.int .u8))(h3:P.underlying dst=some .string)(h:ctsV S p=some r):
  Sim P E S w (convert src dst u) r S:=by
 unfold ctsV at h
 cases hel:elems S p with
 | none=>rw[hel] at h;cases h
 | some xs=>
  rw[hel] at h;simp only[qtT] at h
  cases hb:bytesOf xs with
  | none=>rw[hb] at h;cases h
  | some bs=>
   rw[hb] at h;cases h;obtain ⟨ns,rfl,rfl⟩:=qeO hb
   obtain ⟨a,cap,us,rfl,hrun,hvr⟩:=qbi (P:=P) (sz:=1) hs hp hel (fun x hx=>by
    simp only[qt3] at hx;obtain ⟨n,_,rfl⟩:=hx;rfl) (by omega)
   rw[qj2] at hvr
   have hus:us=(ns.map (Value.int .u8)).toArray:=by
    cases hvr with
    | agg hl g=>
     apply Array.ext
     ·simpa using hl.symm
     ·intro i hi1 hi2;have hi:i<ns.length:=by simpa using hi2
      have hq:=g i (.int .u8 ns[i]) us[i] (by simp[hi]) (by simp);have:∀(n:Int) (q:Value),VR E (.int .u8 n) q→q=.int .u8 n:=by intro n q h;cases h;rfl
      rw[this _ _ hq];simp
   refine Sim.pure hs ?_ (.str _);rw[run_convert_bytes_string w src dst e a _ cap h1 h2 h3]
   cases a with
   | none=>
    simp only[Builtin.firstCells,Sem.run_pure,Result.ok.injEq] at hrun
    have:ns=[]:=by
     have h0:=hrun.1;rw[hus] at h0
     cases ns with
     | nil=>rfl
     | cons n ns=>simp at h0
    subst this;simp[Conv.bytesToString];rfl
   | some a=>
    simp only[Builtin.firstCells] at hrun;have:=run_bytesToString (P:=P) w a (ns.map (V.int .u8)).length cap ns (by rw[←hus];simpa using hrun);rw[this,qhf];simp
theorem SR.lay'{E:En}{S:St}{w w':World}(h:SR E S w){cells:Array Value}{t:TypeId}{fz:Nat×Nat}(g1:w'.heap.size=w.heap.size+1)(g2:w'.heap[w.heap.size]?=some (.cells cells t fz))(g3:∀b,b<w.heap.size→w'.heap[b]?=w.heap[b]?)(g4:(w'.output,w'.os)=(w.output,w.os)):
  SR (E.lay w.heap.size cells) S w'∧E.le (E.lay w.heap.size cells)∧Ext S.length E S w (E.lay w.heap.size cells) S w':=by
 have hno:∀o,E.I w.heap.size o=none:=fun o=>by
  cases hc:E.I w.heap.size o with
  | none=>rfl
  | some c=>exact absurd (cell?_lt (h.I _ _ _ hc)) (by omega)
 have hle:E.le (E.lay w.heap.size cells):=⟨fun b o c hc=>by
  by_cases hb:b=w.heap.size
  ·subst hb;rw[hno] at hc;cases hc
  ·simp[En.lay,hb];exact hc,fun _ _ _ h=>h⟩
 refine ⟨⟨h.gl.old hle.1 (fun b _ _ _ hb _=>g3 b (qdV hb)),?_,?_,h.dom,?_,?_,h.inj⟩,hle,⟨by omega,hle.1,fun _ _ _ _ hx=>hx,fun _ _ hx=>hx,fun b hb=>.inl hb,?_,fun b hb _=>g3 b hb,g4⟩⟩
 ·intro b o c hc;by_cases hb:b=w.heap.size
  ·subst hb;simp only[En.lay,if_true] at hc;unfold World.cell?;rw[g2];simpa using hc
  ·simp only[En.lay,hb,if_false] at hc;have:=h.I b o c hc;rw[cell?_heap (g3 b (cell?_lt this))];exact this
 ·intro l o hl;by_cases hd:o=.dead
  ·subst hd;trivial
  exact (h.obs l o hl).mono hle (fun _ _ hx=>hx) (fun st' x hx=>g3 _ (h.lt _ ⟨l,st',x,⟨o,hl,hd⟩,hx,rfl⟩))
 ·intro b o hb;have h1:=h.lt b hb;simp only[En.lay];rw[if_neg (by omega)];exact h.apart b o hb
 ·intro b hb;have:=h.lt b hb;omega
 ·intro b o c hc;by_cases hb:b=w.heap.size
  ·exact .inr (.inr (by omega))
  ·simp only[En.lay,hb,if_false] at hc;exact .inl hc
def ctbV(s:ByteArray):V:=.sl false (s.data.toList.map fun b=>.int .u8 b.toNat)
theorem qq0{E:En}{S:St}{P:Program}{w:World}{s:ByteArray}{src dst e:TypeId}(hs:SR E S w)(h0:P.underlying src=some .string)(h1:P.underlying dst=some (.slice e))(h2:P.underlying e=some (.int .u8)):Sim P E S w (convert src dst (.string s)) (ctbV s) S:=by
 let q:=Question.appendCap s.size 0 e
 let cap:=q.cut (w.tape w.drawn q)
 have hcap:s.size≤cap:=by simp[cap,q,Question.cut]
 let cells:Array Value:=s.data.map (fun b=>Value.int .u8 (b.toNat:Nat))++Array.replicate (cap - s.size) (.int .u8 0)
 let w1:World:={ w with drawn:=w.drawn+1 }
 let w2:World:={ w1 with heap:=w1.heap.push (.cells cells e (0,0)) }
 let w3:World:=w2.freeze { block:=w.heap.size,off:=cells.size } 1
 have hch:(choose q).run P w=.ok cap w1:=by
  simp[choose,Sem.run,Question.forced,cap,q,w1]
 have hrun:(convert src dst (.string s)).run P w=.ok (.slice (some ⟨w.heap.size,0,none⟩) s.size cap) w3:=by
  simp only[convert,Sem.run_bind,qad h0,qad h1,qad h2,Result.andThen,Conv.stringToBytes];rw[show (choose (.appendCap s.size 0 e)).run P w=.ok cap w1 from hch];simp only[qbY]
  have hsh:w2.shape? w.heap.size=some (e,cells.size):=by
   simp[World.shape?,w2,w1]
  simp only[markStringish,Sem.run_bind,shape,Sem.run];rw[show ({ w1 with heap:=w1.heap.push (.cells cells e (0,0)) }:World)=w2 from rfl,show w1.heap.size=w.heap.size from rfl,hsh];simp only[Result.andThen,freeze,Sem.run,Sem.run_pure];rfl
 have hw3:w3.heap.size=w.heap.size+1∧(∃fz,w3.heap[w.heap.size]?=some (.cells cells e fz))∧(∀b,b<w.heap.size→w3.heap[b]?=w.heap[b]?)∧(w3.output,w3.os)=(w.output,w.os):=by
  refine ⟨?_,?_,fun b hb=>?_,?_⟩
  ·simp[w3,World.freeze,w2,w1]
  ·refine ⟨(cells.size,cells.size+1),?_⟩;simp only[w3,World.freeze,w2,w1];rw[if_neg (by decide)];simp only[];rw[quP,if_pos rfl,quA,if_pos rfl];rfl
  ·simp only[w3,World.freeze,w2,w1,quP];rw[if_neg (by decide)];simp only[];rw[quP,if_neg (by omega),quA,if_neg (by omega)]
  ·simp only[w3,World.freeze];rw[if_neg (by decide)]
 obtain ⟨g1,⟨fz,g2⟩,g3,g4⟩:=hw3;obtain ⟨r1,r2,r3⟩:=hs.lay' (cells:=cells) (t:=e) (fz:=fz) g1 g2 g3 g4;refine ⟨_,_,w3,hrun,?_,r1,r3,qtH _⟩
 have hget:∀(j:Nat) (b:UInt8),s.data.toList[j]?=some b→cells[j]?=some (.int .u8 (b.toNat:Nat)):=fun j b hj=>by
  have hlt:j<s.data.size:=by simpa using (qtB.1 hj).1
  simp only[cells];rw[quy (by simpa using hlt),quU];have:s.data[j]?=some b:=by rw[←qve];exact hj
  rw[this];rfl
 have hI:∀(j:Nat) (b:UInt8),s.data.toList[j]?=some b→(E.lay w.heap.size cells).I w.heap.size j=some (.int .u8 ((b.toNat:Nat):Int)):=fun j b hj=>by
  simp only[En.lay,if_true];rw[hget j b hj]
 have hlen:s.size=(s.data.toList.map fun b=>V.int .u8 (b.toNat:Nat)).length:=by rw[qtN];rfl
 rw[hlen];refine VR.sl (b:=w.heap.size) (o:=0) (sz:=1) (by rw[←hlen];exact hcap) (fun h=>by cases h) (fun v hv=>?_) (fun i j hi hj=>?_) (fun i v j c' c hv hc hi=>?_)
 ·simp only[qt3] at hv;obtain ⟨b,_,rfl⟩:=hv;rfl
 ·have:j=0:=by omega
  subst this;have hi':i<s.data.toList.length:=by simpa using hi
  rw[quJ,Nat.mul_one,qvt,hI i (s.data.toList[i]) (qtF hi')];rfl
 ·simp only[qtV,qtK] at hv;obtain ⟨b,hb,rfl⟩:=hv
  have hj:j=0:=by
   have:=(qtB.1 hc).1;simp[V.cells] at this;exact this
  subst hj;simp[V.cells] at hc;subst hc;rw[quJ,Nat.mul_one,qvt,hI i b hb] at hi;cases hi;exact .int _ _
theorem SR.blockSet{E:En}{S:St}{w:World}(h:SR E S w){l:Nat}{o ob:Ob}{x:Blk}{b:Obj}(hl:S[l]?=some o)(hd:o≠.dead)(hx:E.ρ l 0=some x)(hlt:x.b<w.heap.size)
  (hn:OR E { w with heap:=w.heap.setIfInBounds x.b b } l ob):SR E (S.set l ob) { w with heap:=w.heap.setIfInBounds x.b b }∧Ext S.length E S w E (S.set l ob) { w with heap:=w.heap.setIfInBounds x.b b }:=by
 refine h.change (E':=E) (w':={ w with heap:=w.heap.setIfInBounds x.b b }) ⟨o,hl,hd⟩ rfl (En.le_refl E) (fun _ _ _=>rfl) (fun st z hz=>.inl ⟨st,z,hz,rfl⟩) (by simp) (fun b' hb' hne=>?_) rfl hn;show (w.heap.setIfInBounds x.b _)[b']?=_;rw[qt5 (hne 0 x hx)]
def rngS(S:St)(x:V):Option (V×St):=
 match x with
 | .map lm=>match S[lm]? with
  | some (.map _ _ ck)=>some (.ptr S.length 0 0 0,S++[.iter lm ck [] ck])
  | _=>none
 | _=>none
theorem qmG{E:En}{S S':St}{P:Program}{w:World}{x r:V}{u:Value}{t:TypeId}{q:KeyKd×TypeId×TypeId}(hs:SR E S w)(ht:qet P t=some q)(hx:VR E x u)(h:rngS S x=some (r,S')):
  Sim P E S w (Instr.range t u) r S':=by
 unfold qet at ht;split at ht <;> try cases ht
 rename_i k' e' hu;unfold rngS at h;split at h <;> try cases h
 rename_i lm;split at h <;> try cases h
 rename_i es bs ck hl
 cases hx with
 | map hy=>
  rename_i y;obtain ⟨y',entries,h1,hb,_⟩:=hs.obs lm _ hl;rw[hy] at h1;cases h1;have hlt:lm<S.length:=(qtB.1 hl).1
  have hno:E.ρ S.length 0=none:=by
   cases hr:E.ρ S.length 0 with
   | none=>rfl
   | some z=>exact absurd (hs.dom _ _ _ hr) (by omega)
  have hy':(E.at S.length 0 ⟨w.heap.size,0,0⟩).ρ lm 0=some y:=(qfp hno).2 _ _ _ hy;obtain ⟨n1,n2⟩:=hs.new (o:=.mapIter (some y.b) ck #[] ck) (ob:=.iter lm ck [] ck) (st:=0) (N:=0) (sz:=0) ⟨⟨w.heap.size,0,0⟩,y,qa8,hy',qcT⟩;refine ⟨.pointer (some ⟨w.heap.size,0,none⟩),_,_,?_,?_,n1,n2,by simp⟩
  ·simp[Instr.range,qad hu,MapKept.run_getObj_map hb,newObj,Sem.run,Result.andThen]
  ·have:=VR.ptr (E:=E.at S.length 0 ⟨w.heap.size,0,0⟩) (l:=S.length) (st:=0) (x:=⟨w.heap.size,0,0⟩) 0 0 qa8;simpa using this
def nxtS(S:St)(p:V):List (V×St):=
 match p with
 | .ptr l 0 0 0=>match S[l]? with
  | some (.iter lm since seen last)=>match S[lm]? with
   | some (.map es bs ck)=>if (bs.all fun b=>decide (b<since))=true∧since≤last then
     match (es.zip bs).filter fun q=>!seen.contains q.2 with
     | []=>[(.tup [.bool false],S)]
     | c::cs=>(c::cs).map fun q=>(.tup [.bool true,q.1.1,q.1.2],S.set l (.iter lm since (seen++[q.2]) ck))
    else []
   | _=>[]
  | _=>[]
 | _=>[]
theorem qou{E:En}{S:St}{P:Program}{w:World}{p:V}{u:Value}{t:TypeId}(hs:SR E S w)(hp:VR E p u)(h:nxtS S p≠[]):∃q,q∈nxtS S p∧Sim P E S w (Instr.next u false t) q.1 q.2:=by
 unfold nxtS at h ⊢;split at h <;> try exact absurd rfl h
 rename_i l;split at h <;> try exact absurd rfl h
 rename_i lm since seen last hl;split at h <;> try exact absurd rfl h
 rename_i es bs ck hm;split at h
 case isFalse=>exact absurd rfl h
 rename_i hc;rw[if_pos hc];obtain ⟨hall,hsc⟩:=hc
 cases hp with
 | ptr i off hr=>
  rename_i x;obtain ⟨x',y,h1,h2,h3⟩:=hs.obs l _ hl;rw[hr] at h1;cases h1;obtain ⟨y',entries,g1,g2,g3,g4,g5⟩:=hs.obs lm _ hm;rw[h2] at g1;cases g1;have hlt:x.b<w.heap.size:=(qtS.1 h3).1
  have hold:∀e∈entries.toList,e.born<since:=fun e he=>by
   simp only[qtY,decide_eq_true_eq] at hall;exact hall e.born (by rw[g4];exact qup he)
  have hleft:∀e,e∈entries.toList→seen.contains e.born=false→∃k v,((k,v),e.born)∈(es.zip bs).filter (fun q=>!seen.contains q.2)∧VR E k e.key∧VR E v e.val:=by
   intro e he hse;obtain ⟨j,hj⟩:=qub he;have hj1:j<entries.toList.length:=(qtB.1 hj).1;have hj2:j<es.length:=by rw[g3];simpa using hj1
   have hes:es[j]?=some es[j]:=qtF hj2;obtain ⟨a,b⟩:=g5 j es[j].1 es[j].2 e hes (by simpa using hj);refine ⟨es[j].1,es[j].2,?_,a,b⟩;rw[quV];refine ⟨?_,by simpa using hse⟩;have hbs:bs[j]?=some e.born:=by rw[g4,qtV,hj];rfl
   exact qtP (show (es.zip bs)[j]?=some (es[j],e.born) by rw[List.getElem?_zip_eq_some];exact ⟨hes,hbs⟩)
  have hnil:(leftOf entries seen.toArray).size=0↔(es.zip bs).filter (fun q=>!seen.contains q.2)=[]:=by
   unfold leftOf;rw[Array.size_eq_zero_iff,Array.filter_eq_empty_iff,List.filter_eq_nil_iff];constructor
   ·intro hh q hq;obtain ⟨j,hj⟩:=qub hq;rw[List.getElem?_zip_eq_some] at hj;have hb:=hj.2;rw[g4,qtV,qtK] at hb;obtain ⟨e,he,hbe⟩:=hb;have:=hh e (by simpa using qtP he);rw[←hbe];simpa using this
   ·intro hh e he;intro hse;obtain ⟨k,v,hmem,_⟩:=hleft e (by simpa using he) (by simpa using hse);rw[quV] at hmem;exact hh _ hmem.1 hmem.2
  have hu:(Value.pointer (some ⟨x.b,0 * x.sz+0,none⟩))=.pointer (some ⟨x.b,0,none⟩):=by simp
  rw[hu];rcases run_next_at (P:=P) w t x.b y.b since last seen.toArray entries ck h3 g2 hold hsc with ⟨hz,hrun⟩|⟨e,he,w1,hw1,hrun⟩
  ·rw[hnil.1 hz];refine ⟨_,quH.2 rfl,_,E,w,hrun,.tup rfl fun i v u hv hu=>?_,hs,Ext.refl _ _ _ _,qtH _⟩
   match i with
   | 0=>simp at hv hu;subst hv;subst hu;exact .bool _
   | i+1=>simp at hv
  ·have he':e∈entries.toList∧seen.contains e.born=false:=by
    simp only[leftOf,Array.toList_filter,quV] at he;exact ⟨he.1,by simpa using he.2⟩
   obtain ⟨k,v,hmem,hk,hv⟩:=hleft e he'.1 he'.2;have hs1:SR E S w1:=by rcases hw1 with rfl|rfl <;> first|exact hs|exact hs.heap rfl
   have hx1:Ext S.length E S w E S w1:=by rcases hw1 with rfl|rfl <;> first|exact Ext.refl _ _ _ _|exact Ext.heap _ rfl rfl
   have hlt1:x.b<w1.heap.size:=by rcases hw1 with rfl|rfl <;> exact hlt
   obtain ⟨s1,s2⟩:=hs1.blockSet (ob:=.iter lm since (seen++[e.born]) ck) (b:=.mapIter (some y.b) since (seen.toArray.push e.born) ck) hl (by simp) hr hlt1 ⟨x,y,hr,h2,by simp[hlt1]⟩
   have hq:(V.tup [.bool true,k,v],S.set l (.iter lm since (seen++[e.born]) ck))∈(match (es.zip bs).filter fun q=>!seen.contains q.2 with
     | []=>[(V.tup [.bool false],S)]
     | c::cs=>(c::cs).map fun (q:(V×V)×Nat)=>(V.tup [.bool true,q.1.1,q.1.2],S.set l (.iter lm since (seen++[q.2]) ck))):=by
    cases hf:(es.zip bs).filter fun q=>!seen.contains q.2 with
    | nil=>rw[hf] at hmem;cases hmem
    | cons c cs=>rw[hf] at hmem;exact qt3.2 ⟨_,hmem,rfl⟩
   refine ⟨_,hq,_,E,_,hrun,?_,s1,hx1.trans s2,by simp⟩;refine .tup rfl fun i a b ha hb=>?_
   match i with
   | 0=>simp at ha hb;subst ha;subst hb;exact .bool _
   | 1=>simp at ha hb;subst ha;subst hb;exact hk
   | 2=>simp at ha hb;subst ha;subst hb;exact hv
   | i+3=>simp at ha
def entS(S:St)(p:V):Option V:=
 match p with
 | .ptr l 0 0 0=>match S[l]? with
  | some (.iter lm _ seen last)=>match S[lm]? with
   | some (.map es bs ck)=>if ck=last∧bs.Nodup then match seen.getLast? with
     | some b=>match (es.zip bs).find? fun q=>q.2==b with
      | some q=>some (.tup [q.1.1,q.1.2])
      | none=>none
     | none=>none
    else none
   | _=>none
  | _=>none
 | _=>none
theorem qlV{E:En}{S:St}{P:Program}{w:World}{p r:V}{u:Value}(hs:SR E S w)(hp:VR E p u)(h:entS S p=some r):Sim P E S w (Instr.entry u) r S:=by
 unfold entS at h;split at h <;> try cases h
 rename_i l;split at h <;> try cases h
 rename_i lm since seen last hl;split at h <;> try cases h
 rename_i es bs ck hm;split at h <;> try cases h
 rename_i hc;obtain ⟨rfl,hnd⟩:=hc;split at h <;> try cases h
 rename_i b hb;split at h <;> try cases h
 rename_i q hq
 cases hp with
 | ptr i off hr=>
  rename_i x;obtain ⟨x',y,h1,h2,h3⟩:=hs.obs l _ hl;rw[hr] at h1;cases h1;obtain ⟨y',entries,g1,g2,g3,g4,g5⟩:=hs.obs lm _ hm;rw[h2] at g1;cases g1;have hu:(Value.pointer (some ⟨x.b,0 * x.sz+0,none⟩))=.pointer (some ⟨x.b,0,none⟩):=by simp
  rw[hu];have hqb:q.2=b:=by simpa using List.find?_some hq
  obtain ⟨j,hj⟩:=qub (List.mem_of_find?_eq_some hq);rw[List.getElem?_zip_eq_some] at hj;have hbj:=hj.2;rw[g4,qtV,qtK] at hbj;obtain ⟨e,he,hbe⟩:=hbj;obtain ⟨k1,k2⟩:=g5 j q.1.1 q.1.2 e hj.1 (by simpa using he)
  have hseen:seen.toArray=seen.dropLast.toArray.push e.born:=by
   rw[hbe,hqb]
   have:seen=seen.dropLast++[b]:=by
    obtain ⟨zs,rfl⟩:=List.getLast?_eq_some_iff.1 hb;simp
   conv=>lhs;rw[this]
   simp
  rw[hseen] at h3;have hrun:=run_entry_at (P:=P) w x.b y.b since seen.dropLast.toArray entries ck e h3 g2 (by simpa using qtP he) (by rw[←g4];exact hnd);refine ⟨_,E,w,hrun,.tup rfl fun i a b ha hb=>?_,hs,Ext.refl _ _ _ _,qtH _⟩
  match i with
  | 0=>simp at ha hb;subst ha;subst hb;exact k1
  | 1=>simp at ha hb;subst ha;subst hb;exact k2
  | i+2=>simp at ha
def delS(S:St)(kd:KeyKd)(x k:V):Option St:=
 if qf1 kd k=true then match x with
  | .map l=>match S[l]? with
   | some (.map es bs ck)=>match qcq kd k es 0 with
    | some (some (i,_))=>some (S.set l (.map (es.eraseIdx i) (bs.eraseIdx i) ck))
    | some none=>some (S.set l (.map es bs ck))
    | none=>none
   | _=>none
  | _=>none
 else none
theorem qkt{E:En}{S S':St}{P:Program}{w:World}{x k:V}{u ku:Value}{ts:Array TypeId}{T t kt et:TypeId}{kd:KeyKd}(hs:SR E S w)(hts:ts[0]?=some t)(ht:qet P t=some (kd,kt,et))(hx:VR E x u)(hk:VR E k ku)(h:delS S kd x k=some S'):
  Sim P E S w (Builtin.delete_ ts T #[u,ku]) (.tup []) S':=by
 unfold qet at ht;split at ht <;> try cases ht
 rename_i k' e' hu
 cases hkk:qeJ P k' with
 | none=>rw[hkk] at ht;cases ht
 | some kd'=>
  rw[hkk] at ht;simp only[qtU,Option.some.injEq,Prod.mk.injEq] at ht;obtain ⟨rfl,rfl,rfl⟩:=ht
  have hd:∃d,P.underlying k'=some d:=by
   unfold qeJ at hkk
   cases hd:P.underlying k' with
   | none=>rw[hd] at hkk;cases hkk
   | some d=>exact ⟨d,rfl⟩
  obtain ⟨d,hd⟩:=hd;unfold delS at h;split at h
  case isFalse=>cases h
  rename_i hki;have hkey:=qfP hkk hd hk hki;split at h <;> try cases h
  rename_i l;split at h <;> try cases h
  rename_i es bs clock hl
  cases hx with
  | map hy=>
   rename_i y;obtain ⟨y',entries,h1,hb,h3,hbs,h4⟩:=hs.obs l _ hl;rw[hy] at h1;cases h1;have hent:qdu E es entries.toList:=⟨by simpa using h3,fun i k v e hk he=>h4 i k v e hk (by simpa using he)⟩;have hck:∀b,(Instr.checkKey b 10000 k' ku).run P w=.ok () w:=fun b=>MapKept.run_checkKey hd hkey _ _
   have hlt:y.b<w.heap.size:=(qtS.1 hb).1;split at h <;> try cases h
   ·rename_i i v0 hf;rcases qbG hkk hd hk es entries.toList 0 _ hent hf with ⟨g1,_⟩|⟨j,v',e,g1,g2,g3,g4,g5,g6,g7⟩
    ·cases g1
    ·simp only[Option.some.injEq,Prod.mk.injEq,quJ] at g1;obtain ⟨rfl,rfl⟩:=g1;have hfk:=MapKept.run_findKey (P:=P) (w:=w) hd g2;have hij:i<entries.size:=by rw[←h3];exact g6
     have her:(entries.eraseIdxIfInBounds i).toList=entries.toList.eraseIdx i:=by
      unfold Array.eraseIdxIfInBounds;rw[dif_pos hij];simp
     have hsz:(entries.eraseIdxIfInBounds i).size=(entries.toList.eraseIdx i).length:=by rw[←her,quK]
     have hmap:∀(l:List MapEntry) (i:Nat),(l.map (·.born)).eraseIdx i=(l.eraseIdx i).map (·.born):=by
      intro l
      induction l with
      | nil=>intro i;rfl
      | cons a l ih=>
       intro i
       cases i with
       | zero=>rfl
       | succ i=>simp only[qtW,List.eraseIdx_cons_succ,ih]
     obtain ⟨s1,s2⟩:=hs.blockSet (ob:=.map (es.eraseIdx i) (bs.eraseIdx i) clock) (b:=.map (entries.eraseIdxIfInBounds i) clock) hl (by simp) hy hlt ⟨y,entries.eraseIdxIfInBounds i,hy,by simp[hlt],by
       rw[hsz,List.length_eraseIdx,List.length_eraseIdx];simp[h3],by rw[her,hbs,hmap],fun j' k2 v2 e2 hk2 he2=>by
       have he2':(entries.toList.eraseIdx i)[j']?=some e2:=by rw[←her,qve];exact he2
       rw[List.getElem?_eraseIdx] at hk2 he2';split at hk2 <;> rename_i hji
       ·rw[if_pos hji] at he2';exact h4 j' k2 v2 e2 hk2 (by simpa using he2')
       ·rw[if_neg hji] at he2';exact h4 (j'+1) k2 v2 e2 hk2 (by simpa using he2')⟩
     refine ⟨.tuple #[],E,_,?_,.tup rfl (fun i v u hv=>by simp at hv),s1,s2,by simp⟩;simp[Builtin.delete_,hts,qad hu,MapKept.run_getObj_map hb,hck,hfk,MapKept.run_setObj_map _ hb,Result.andThen]
   ·rename_i hf;rcases qbG hkk hd hk es entries.toList 0 _ hent hf with ⟨_,g2⟩|⟨j',v',e,g1,_⟩
    ·have hfk:=MapKept.run_findKey (P:=P) (w:=w) hd g2;obtain ⟨s1,s2⟩:=hs.blockSet (ob:=.map es bs clock) (b:=.map entries clock) hl (by simp) hy hlt ⟨y,entries,hy,by simp[hlt],h3,hbs,h4⟩;refine ⟨.tuple #[],E,_,?_,.tup rfl (fun i v u hv=>by simp at hv),s1,s2,by simp⟩;simp[Builtin.delete_,hts,qad hu,MapKept.run_getObj_map hb,hck,hfk,MapKept.run_setObj_map _ hb,Result.andThen]
    ·cases g1
inductive Opd where
 | t (n:Nat)
 | c (v:V)
 | f (k:FuncId)
 deriving Inhabited
def Opd.ev(e:Env):Opd→Option V
 | .t n=>e.get n
 | .c v=>some v
 | .f k=>some (.fn (.func k) [] [])
def vOf1:Value→V
 | .bool b=>.bool b
 | .int k n=>.int k n
 | .string s=>.str s
 | .pointer none=>.nilp
 | .slice none 0 0=>.sl true []
 | .map none=>.nilmap
 | .nilFunc=>.nilfn
 | .nilIface=>.niliface
 | _=>.top
def vOf:Value→V
 | .agg cs=>.agg (cs.toList.map vOf1)
 | v=>vOf1 v
theorem qhC(E:En)(v:Value):VR E (vOf1 v) v:=by
 unfold vOf1;split <;> constructor
theorem qdD(E:En)(v:Value):VR E (vOf v) v:=by
 unfold vOf;split
 ·rename_i cs;refine .agg (by simp) fun i v u hv hu=>?_
  simp only[qtV,qtK] at hv;obtain ⟨x,hx,rfl⟩:=hv;simp at hx;rw[hx] at hu;cases hu;exact qhC E _
 ·exact qhC E _
def qam:Operand→Option Opd
 | .tmp t=>some (.t t)
 | .const v=>some (.c (vOf v))
 | .func f=>some (.f f)
 | .global g=>some (.c (.glob g 0))
theorem qaw{E:En}{e:Env}{a:Act}{o:Operand}{o':Opd}{v:V}(ht:Tmps E e a.tmps)(hc:qam o=some o')(hv:o'.ev e=some v):VR E v (a.eval o):=by
 cases o <;> simp only[qam,Option.some.injEq,reduceCtorEq] at hc <;> subst hc
 ·simp only[Opd.ev] at hv;obtain ⟨u,hu,hr⟩:=ht _ _ hv;simp only[Act.eval];rw[show a.tmps.getD _ undef=u by simp[hu]];exact hr
 ·simp only[Opd.ev,Option.some.injEq] at hv;subst hv;exact qdD E _
 ·simp only[Opd.ev,Option.some.injEq] at hv;subst hv;exact .glob _ _
 ·simp only[Opd.ev,Option.some.injEq] at hv;subst hv;exact .fn rfl rfl (fun i v u h=>by simp at h) (fun i v u h=>by simp at h)
def Opd.tmps:Opd→List Nat
 | .t n=>[n]
 | _=>[]
def evs(e:Env):List Opd→Option (List V)
 | []=>some []
 | x::xs=>match x.ev e,evs e xs with
  | some v,some vs=>some (v::vs)
  | _,_=>none
def qah(e:Env):List (Nat×Nat×Nat×Opd)→Option (List (Nat×Nat×Nat×V))
 | []=>some []
 | (f,o,n,x)::ps=>match x.ev e,qah e ps with
  | some v,some vs=>some ((f,o,n,v)::vs)
  | _,_=>none
def intOf?:V→Option Int
 | .int _ n=>some n
 | _=>none
def qfJ(e:Env):Option Opd→Option (Option Int)
 | none=>some none
 | some x=>match x.ev e with
  | some (.int _ n)=>some (some n)
  | _=>none
inductive X where
 | eqs (neg:Bool) (sz:Nat) (os:List (Nat×CK)) (x y:Opd)
 | eqn (neg:Bool) (x:Opd)
 | lkp (kd:KeyKd) (z:V) (ok:Bool) (x k:Opd)
 | mup (kd:KeyKd) (x k v:Opd)
 | mkm
 | mm (mx:Bool) (x y:Opd)
 | mks (sz bytes:Nat) (z:V) (l c:Opd)
 | iaa (n sz:Nat) (x i:Opd)
 | cts (x:Opd)
 | ctb (x:Opd)
 | rng (x:Opd)
 | nxt (x:Opd)
 | ent (x:Opd)
 | del (kd:KeyKd) (x k:Opd)
 | wrap (n:Nat) (x:Opd)
 | ixa (len sz:Nat) (kd:Option Nat) (x i:Opd)
 deriving Inhabited
def mmV(mx:Bool):V→V→Option V
 | .int k a,.int _ b=>some (.int k (if mx then (if b > a then b else a) else (if b<a then b else a)))
 | _,_=>none
def evX(e:Env)(S:St):X→Option (V×St)
 | .eqs neg sz os x y=>match x.ev e,y.ev e with
  | some (.agg cs),some (.agg ds)=>if cs.length=sz∧ds.length=sz then (qbh cs ds os).map fun b=>(.bool (if neg then !b else b),S) else none
  | _,_=>none
 | .eqn neg x=>match x.ev e with
  | some (.sl _ (_::_))=>some (.bool neg,S)
  | some (.arr ..)=>some (.bool neg,S)
  | _=>none
 | .lkp kd z ok x k=>match x.ev e,k.ev e with
  | some m,some key=>(lkpV S kd z ok m key).map fun r=>(r,S)
  | _,_=>none
 | .mup kd x k v=>match x.ev e,k.ev e,v.ev e with
  | some m,some key,some val=>(mupS S kd m key val).map fun S'=>(.tup [],S')
  | _,_,_=>none
 | .mkm=>some (.map S.length,S++[.map [] [] 0])
 | .mm mx x y=>match x.ev e,y.ev e with
  | some u,some v=>(mmV mx u v).map fun r=>(r,S)
  | _,_=>none
 | .mks sz bytes z l c=>match l.ev e,c.ev e with
  | some (.int _ l),some (.int _ c)=>mksS S sz bytes z l c
  | _,_=>none
 | .iaa n sz x i=>match x.ev e,i.ev e with
  | some p,some (.int _ ix)=>(iaaV n sz p ix).map fun r=>(r,S)
  | _,_=>none
 | .cts x=>(x.ev e).bind fun p=>(ctsV S p).map fun r=>(r,S)
 | .ctb x=>match x.ev e with
  | some (.str s)=>some (ctbV s,S)
  | _=>none
 | .rng x=>(x.ev e).bind fun v=>rngS S v
 | .nxt _=>none
 | .ent x=>(x.ev e).bind fun v=>(entS S v).map fun r=>(r,S)
 | .del kd x k=>match x.ev e,k.ev e with
  | some m,some key=>(delS S kd m key).map fun S'=>(.tup [],S')
  | _,_=>none
 | .wrap n x=>(x.ev e).bind fun v=>if v.size=n∧(v.cells.all V.flat)=true then some (.agg v.cells,S) else none
 | .ixa len sz kd x i=>match x.ev e,i.ev e with
  | some v,some (.int _ ix)=>if v.isAgg=true∧0≤ix∧ix<len then (v.part (ix.toNat * sz) kd).map fun r=>(r,S) else none
  | _,_=>none
def ndX(e:Env):X→List V
 | .eqn _ x=>match x.ev e with
  | some (.sl _ [])=>[.bool true,.bool false]
  | _=>[]
 | _=>[]
def X.tmps:X→List Nat
 | .eqs _ _ _ x y|.lkp _ _ _ x y|.mm _ x y|.mks _ _ _ x y|.iaa _ _ x y|.del _ x y|.ixa _ _ _ x y=>x.tmps++y.tmps
 | .eqn _ x|.cts x|.ctb x|.rng x|.nxt x|.ent x|.wrap _ x=>x.tmps
 | .mup _ x k v=>x.tmps++k.tmps++v.tmps
 | .mkm=>[]
def X.writes:X→Bool
 | .mup ..|.mkm|.mks ..|.rng ..|.nxt ..|.del ..=>true
 | _=>false
def X.reads:X→Bool
 | .mup ..|.mkm|.lkp ..|.mks ..|.cts ..|.rng ..|.nxt ..|.ent ..|.del ..=>true
 | _=>false
def qeN:Operand→Bool
 | .const (.slice none 0 0)=>true
 | _=>false
def isU8:Option TypeDesc→Bool
 | some (.int .u8)=>true
 | _=>false
theorem qhl{d:Option TypeDesc}(h:isU8 d=true):d=some (.int .u8):=by
 unfold isU8 at h;split at h
 ·rfl
 ·cases h
def qeX(P:Program)(o:Oper):Option X:=
 match o.op with
 | .binOp op t x y _=>match op==.eql || op==.neq with
  | false=>none
  | true=>match P.underlying t with
   | some (.struct _)=>if P.eqGuardType P.depth t=true then none else match qdH P 10000 t,P.info? t,qam x,qam y with
    | some os,some i,some x,some y=>some (.eqs (op==.neq) i.size os x y)
    | _,_,_,_=>none
   | some (.slice _)=>if qeN y=true then (qam x).map (.eqn (op==.neq)) else none
   | _=>none
 | .lookup t x k ok=>match qet P t with
  | some (kd,_,et)=>match P.info? et,qam x,qam k with
   | some i,some x,some k=>i.zero.map fun z=>.lkp kd (vOf z) ok x k
   | _,_,_=>none
  | none=>none
 | .mapUpdate t m k x|.insert t m k x=>match qet P t,qam m,qam k,qam x with
  | some (kd,_,_),some m,some k,some x=>some (.mup kd m k x)
  | _,_,_,_=>none
 | .makeMap _ none=>some .mkm
 | .makeSlice t l c=>match P.underlying t with
  | some (.slice e)=>match P.info? e,qam l,qam c with
   | some i,some l,some c=>i.zero.map fun z=>.mks i.size i.bytes (vOf z) l c
   | _,_,_=>none
  | _=>none
 | .indexAddr t x i=>match qpI P t,qam x,qam i with
  | some (n,sz),some x,some i=>some (.iaa n sz x i)
  | _,_,_=>none
 | .convert src dst x=>match P.underlying src,P.underlying dst,qam x with
  | some (.slice e),some .string,some x=>if isU8 (P.underlying e)=true then some (.cts x) else none
  | some .string,some (.slice e),some x=>if isU8 (P.underlying e)=true then some (.ctb x) else none
  | _,_,_=>none
 | .call c=>match c.callee,c.args.toList.mapM qam with
  | .builtin .max,some [x,y]=>some (.mm true x y)
  | .builtin .min,some [x,y]=>some (.mm false x y)
  | .builtin .delete,some [x,y]=>match c.argTypes[0]? with
   | some t=>(qet P t).bind fun p=>some (.del p.1 x y)
   | none=>none
  | _,_=>none
 | .range t x=>match qet P t,qam x with
  | some _,some x=>some (.rng x)
  | _,_=>none
 | .next x false=>(qam x).map .nxt
 | .entry x=>(qam x).map .ent
 | .build t ps=>match P.info? t,qbH P t with
  | some i,some l=>match i.zero with
   | some z=>match ps.toList with
    | [(j,x)]=>match l[j]?,qam x with
     | some (0,n),some x=>if z.cells.size=n then some (.wrap n x) else none
     | _,_=>none
    | _=>none
   | none=>none
  | _,_=>none
 | .index t x i=>match P.underlying t with
  | some (.array n e)=>match P.info? e,qa4 P e,qam x,qam i with
   | some ei,some k,some x,some i=>some (.ixa n ei.size k x i)
   | _,_,_,_=>none
  | _=>none
 | _=>none
inductive EqKd where
 | bool|ptr|func
 deriving DecidableEq,Inhabited
inductive K where
 | mv (x:Opd)
 | pick (c a b:Opd)
 | new (z:V)
 | box (x:Opd)
 | build (z:V) (ps:List (Nat×Nat×Nat×Opd))
 | bsl (sz:Nat) (xs:List Opd)
 | ld (k:Option Nat) (a:Opd)
 | sto (n:Nat) (a x:Opd)
 | nck (x:Opd)
 | bin (op:BinOp) (x y:Opd)
 | eq (kd:EqKd) (neg:Bool) (x y:Opd)
 | un (op:UnOp) (x:Opd)
 | fa (off:Nat) (x:Opd)
 | ia (sz:Nat) (x i:Opd)
 | idx (x i:Opd)
 | fld (off:Nat) (k:Option Nat) (x:Opd)
 | slc (s:Bool) (sz:Nat) (x:Opd) (lo hi:Option Opd)
 | ext (i:Nat) (x:Opd)
 | len (s:Bool) (x:Opd)
 | app (sz bytes:Nat) (d x:Opd)
 | mkf (k:FuncId) (fs cs:List Opd)
 | conv (k:IntKind) (x:Opd)
 | call (f:Opd) (args:List Opd)
 | ex (k:X)
 deriving Inhabited
def qbd:V→Bool
 | .ptr ..=>true
 | .iptr ..=>true
 | .fn (.func _) _ _=>true
 | _=>false
def eqOk:EqKd→V→V→Bool
 | .bool,.bool _,.bool _=>true
 | .ptr,.nilp,.nilp|.ptr,.nilp,.ptr ..|.ptr,.nilp,.iptr ..|.ptr,.ptr ..,.nilp|.ptr,.iptr ..,.nilp=>true
 | .func,.nilfn,.nilfn|.func,.nilfn,.fn ..|.func,.fn ..,.nilfn=>true
 | _,_,_=>false
def evK(e:Env)(S:St):K→Option (V×St)
 | .mv x=>(x.ev e).map fun v=>(v,S)
 | .pick c a b=>match c.ev e with
  | some (.bool t)=>((if t then a else b).ev e).map fun v=>(v,S)
  | _=>none
 | .new z=>boxS S z
 | .box x=>(x.ev e).bind fun v=>boxS S v
 | .build z ps=>(qah e ps).bind fun l=>(qal z (l.map fun p=>p.2)).map fun v=>(v,S)
 | .bsl sz xs=>(evs e xs).bind fun l=>if fits sz l=true∧l.length * sz≤2 ^ 24 then some (.sl true l,S) else none
 | .ld k a=>(a.ev e).bind fun p=>(ldS S p k).map fun v=>(v,S)
 | .sto n a x=>match a.ev e,x.ev e with
  | some p,some v=>(stS S p n v).map fun S'=>(.tup [],S')
  | _,_=>none
 | .nck x=>(x.ev e).bind fun v=>if qbd v=true then some (v,S) else none
 | .bin op x y=>match x.ev e,y.ev e with
  | some u,some v=>(binV op u v).map fun r=>(r,S)
  | _,_=>none
 | .eq kd neg x y=>match x.ev e,y.ev e with
  | some u,some v=>if eqOk kd u v=true then (eqV u v).map fun b=>(.bool (if neg then !b else b),S) else none
  | _,_=>none
 | .un op x=>(x.ev e).bind fun v=>(unV op v).map fun r=>(r,S)
 | .fa off x=>(x.ev e).bind fun v=>(faV v off).map fun r=>(r,S)
 | .ia sz x i=>match x.ev e,i.ev e with
  | some p,some (.int _ ix)=>(iaS S sz p ix).map fun r=>(r,S)
  | _,_=>none
 | .idx x i=>match x.ev e,i.ev e with
  | some (.str s),some (.int _ ix)=>(idxV s ix).map fun r=>(r,S)
  | _,_=>none
 | .fld off k x=>(x.ev e).bind fun v=>if v.isAgg=true then (v.part off k).map fun r=>(r,S) else none
 | .slc s sz x lo hi=>match x.ev e,qfJ e lo,qfJ e hi with
  | some d,some l,some h=>match s,d with
   | true,.str b=>(qbJ S sz (.str b) l h).map fun r=>(r,S)
   | false,.sl ..|false,.arr ..=>(qbJ S sz d l h).map fun r=>(r,S)
   | _,_=>none
  | _,_,_=>none
 | .ext i x=>match x.ev e with
  | some (.tup vs)=>(vs[i]?).map fun r=>(r,S)
  | _=>none
 | .len s x=>(x.ev e).bind fun v=>match s,v with
  | true,.str b=>some (.int .i64 b.size,S)
  | false,.sl _ xs=>some (.int .i64 xs.length,S)
  | false,.arr _ _ n _=>some (.int .i64 n,S)
  | _,_=>none
 | .app sz bytes d x=>match d.ev e,x.ev e with
  | some u,some v=>appS S sz bytes u v
  | _,_=>none
 | .mkf k fs cs=>match evs e fs,evs e cs with
  | some us,some vs=>some (.fn (.func k) us vs,S)
  | _,_=>none
 | .conv k x=>match x.ev e with
  | some (.int _ n)=>some (.int k (k.wrap n),S)
  | _=>none
 | .call _ _=>none
 | .ex k=>evX e S k
def qhh(P:Program)(t:TypeId)(ps:List (Nat×Operand)):Option (List (Nat×Nat×Nat×Opd)):=
 match qbH P t with
 | none=>none
 | some l=>ps.mapM fun (i,x)=>match l[i]?,qam x with
  | some (o,n),some y=>some (i,o,n,y)
  | _,_=>none
def qnW:Nat→List (Nat×Operand)→Bool
 | _,[]=>true
 | k,(i,_)::ps=>i==k && qnW (k+1) ps
def eqKd(P:Program)(t:TypeId):Option EqKd:=
 match P.underlying t with
 | some .bool=>some .bool
 | some (.pointer _)=>some .ptr
 | some (.func ..)=>some .func
 | _=>none
def qtl(P:Program)(t:TypeId):Bool:=
 match P.underlying t with
 | some (.int _)=>true
 | some .string=>true
 | _=>false
def qcb(P:Program)(o:Oper):Option K:=
 match o.op with
 | .move x|.assign x=>(qam x).map .mv
 | .pick c a b=>match qam c,qam a,qam b with
  | some c,some a,some b=>some (.pick c a b)
  | _,_,_=>none
 | .alloc t=>match P.info? t with
  | some i=>match i.zero with
   | some z=>some (.new (vOf z))
   | none=>none
  | none=>none
 | .box _ x=>(qam x).map .box
 | .build t ps=>match P.info? t with
  | some i=>match i.zero with
   | some z=>match vOf z,qhh P t ps.toList with
    | .agg cs,some l=>if (l.all fun p=>!(p.2.1==0 && p.2.2.1==cs.length))=true then some (.build (.agg cs) l) else none
    | _,_=>none
   | none=>none
  | none=>none
 | .buildSlice t n ps=>match slTy P t,ps.toList.mapM fun p=>qam p.2 with
  | some sz,some l=>if n=ps.size∧qnW 0 ps.toList=true then some (.bsl sz l) else none
  | _,_=>none
 | .load t a=>match qa4 P t,qam a with
  | some k,some a=>some (.ld k a)
  | _,_=>none
 | .store t a x=>match P.info? t,qam a,qam x with
  | some i,some a,some x=>some (.sto i.size a x)
  | _,_,_=>none
 | .nilCheck x=>(qam x).map .nck
 | .binOp op t x y _=>match qam x,qam y with
  | some x,some y=>if qtl P t=true then some (.bin op x y) else match eqKd P t with
   | some kd=>match op with
    | .eql=>some (.eq kd false x y)
    | .neq=>some (.eq kd true x y)
    | _=>none
   | none=>none
  | _,_=>none
 | .unOp op _ x=>(qam x).map (.un op)
 | .convert t d x=>match P.underlying t,P.underlying d,qam x with
  | some _,some (.int k),some x=>some (.conv k x)
  | _,_,_=>none
 | .fieldAddr t x f=>match qhc P t f,qam x with
  | some off,some x=>some (.fa off x)
  | _,_=>none
 | .field t x f=>match qfR P t f,qam x with
  | some (off,k),some x=>some (.fld off k x)
  | _,_=>none
 | .indexAddr t x i=>match qcZ P t,qam x,qam i with
  | some sz,some x,some i=>some (.ia sz x i)
  | _,_,_=>none
 | .index t x i=>match P.underlying t,qam x,qam i with
  | some .string,some x,some i=>some (.idx x i)
  | _,_,_=>none
 | .slice t x lo hi none=>match qam x,(match lo with|none=>some none|some y=>(qam y).map some),(match hi with|none=>some none|some y=>(qam y).map some) with
  | some x,some lo,some hi=>match P.underlying t with
   | some .string=>some (.slc true 0 x lo hi)
   | _=>match qcZ P t with
    | some sz=>some (.slc false sz x lo hi)
    | none=>none
  | _,_,_=>none
 | .extract x i=>(qam x).map (.ext i)
 | .makeFunc (.func k) fs cs=>match fs.toList.mapM qam,cs.toList.mapM qam with
  | some fs,some cs=>some (.mkf k fs cs)
  | _,_=>none
 | .call c=>match c.callee,c.args.toList.mapM qam with
  | .value f,some args=>(qam f).map fun f=>.call f args
  | .builtin .len,some [x]=>match c.argTypes[0]? with
   | some t=>match P.underlying t with
    | some .string=>some (.len true x)
    | some (.slice _)=>some (.len false x)
    | _=>none
   | none=>none
  | .builtin .append,some [d,x]=>(qlB P c.argTypes).map fun p=>.app p.1 p.2 d x
  | _,_=>none
 | _=>none
def qbK(P:Program)(o:Oper):Option K:=
 match qcb P o with
 | some k=>some k
 | none=>(qeX P o).map .ex
def ndK(e:Env):K→List V
 | .ex k=>ndX e k
 | _=>[]
def NR(E:En)(nx:Next)(r:V):Prop:=(∃u,nx=.value u∧VR E r u)∨(nx=.skip∧r=.tup [])
def SimN(P:Program)(E:En)(S:St)(w:World)(s:Sem Next)(r:V)(S':St):Prop:=
 ∃nx E' w',s.run P w=.ok nx w'∧NR E' nx r∧SR E' S' w'∧Ext S.length E S w E' S' w'∧S.length≤S'.length
theorem Sim.next{P:Program}{E:En}{S S':St}{w:World}{s:Sem Value}{r:V}(h:Sim P E S w s r S'):SimN P E S w (do Pure.pure (Next.value (←s))) r S':=by
 obtain ⟨d,E',w',h1,h2,h3⟩:=h;exact ⟨.value d,E',w',by simp[h1,Result.andThen],.inl ⟨d,rfl,h2⟩,h3⟩
theorem SimN.val{P:Program}{E:En}{S:St}{w:World}{u:Value}{r:V}(hs:SR E S w)(h:VR E r u):SimN P E S w (Pure.pure (Next.value u)) r S:=
 ⟨.value u,E,w,rfl,.inl ⟨u,rfl,h⟩,hs,Ext.refl _ _ _ _,qtH _⟩
theorem SimN.cast{P:Program}{E:En}{S S':St}{w:World}{s s':Sem Next}{r:V}(h:SimN P E S w s r S')(e:s'=s):SimN P E S w s' r S':=by rw[e];exact h
theorem qcp{E:En}{e:Env}{a:Act}(ht:Tmps E e a.tmps):∀{os:List Operand} {xs:List Opd} {vs:List V},os.mapM qam=some xs→evs e xs=some vs→
  vs.length=os.length∧∀(i:Nat) (v:V) (o:Operand),vs[i]?=some v→os[i]?=some o→VR E v (a.eval o)
 | [],xs,vs,h1,h2=>by
  simp at h1;subst h1;simp only[evs] at h2;cases h2;exact ⟨rfl,fun i v o h=>by simp at h⟩
 | o::os,xs,vs,h1,h2=>by
  simp only[quN,quw] at h1
  cases hc:qam o with
  | none=>rw[hc] at h1;simp at h1
  | some x=>
   rw[hc] at h1
   cases hr:os.mapM qam with
   | none=>rw[hr] at h1;simp at h1
   | some xs'=>
    rw[hr] at h1;simp at h1;subst h1;simp only[evs] at h2;split at h2 <;> try cases h2
    rename_i v vs' hv hvs;obtain ⟨i1,i2⟩:=qcp ht hr hvs;refine ⟨by simp[i1],fun i v' o' h h'=>?_⟩
    cases i with
    | zero=>simp at h h';subst h;subst h';exact qaw ht hc hv
    | succ i=>exact i2 i v' o' (by simpa using h) (by simpa using h')
theorem qhq{E:En}{P:Program}{e:Env}{a:Act}{t:TypeId}{l:List (Nat×Nat)}(ht:Tmps E e a.tmps)(hl:qbH P t=some l):∀{ps:List (Nat×Operand)} {qs:List (Nat×Nat×Nat×Opd)} {vs:List (Nat×Nat×Nat×V)},
  (ps.mapM fun (i,x)=>match l[i]?,qam x with|some (o,n),some y=>some (i,o,n,y)|_,_=>none)=some qs→qah e qs=some vs→
  vs.length=ps.length∧(∀(j:Nat) (p:Nat×Nat×Nat×V) (u:Nat×Operand),vs[j]?=some p→ps[j]?=some u→p.1=u.1∧l[p.1]?=some (p.2.1,p.2.2.1)∧VR E p.2.2.2 (a.eval u.2))∧
  (∀p,p∈vs→∃q,q∈qs∧q.2.1=p.2.1∧q.2.2.1=p.2.2.1)
 | [],qs,vs,h1,h2=>by
  simp at h1;subst h1;simp only[qah] at h2;cases h2;exact ⟨rfl,fun j p u h=>by simp at h,fun p hp=>by simp at hp⟩
 | (i,x)::ps,qs,vs,h1,h2=>by
  simp only[quN,quw] at h1
  cases hi:l[i]? with
  | none=>rw[hi] at h1;simp at h1
  | some on=>
   obtain ⟨o,n⟩:=on
   cases hc:qam x with
   | none=>rw[hi,hc] at h1;simp at h1
   | some y=>
    rw[hi,hc] at h1;simp only[qtT] at h1
    cases hr:(ps.mapM fun (i,x)=>match l[i]?,qam x with|some (o,n),some y=>some (i,o,n,y)|_,_=>none) with
    | none=>rw[hr] at h1;simp at h1
    | some qs'=>
     rw[hr] at h1;simp at h1;subst h1;simp only[qah] at h2;split at h2 <;> try cases h2
     rename_i v vs' hv hvs;obtain ⟨i1,i2,i3⟩:=qhq ht hl hr hvs;refine ⟨by simp[i1],fun j p u h h'=>?_,fun p hp=>?_⟩
     ·cases j with
      | zero=>simp at h h';subst h;subst h';exact ⟨rfl,hi,qaw ht hc hv⟩
      | succ j=>exact i2 j p u (by simpa using h) (by simpa using h')
     ·rcases quc.1 hp with rfl|hp
      ·exact ⟨_,List.mem_cons_self,rfl,rfl⟩
      ·obtain ⟨q,hq,h⟩:=i3 p hp;exact ⟨q,qvg _ hq,h⟩
theorem qgm:∀{ps:List (Nat×Operand)} {k:Nat},qnW k ps=true→∀(i:Nat) (p:Nat×Operand),ps[i]?=some p→p.1=k+i
 | [],_,_,i,p,h=>by simp at h
 | (j,x)::ps,k,hr,i,p,h=>by
  simp only[qnW,qtJ,beq_iff_eq] at hr
  cases i with
  | zero=>simp at h;subst h;exact hr.1
  | succ i=>have:=qgm hr.2 i p (by simpa using h);omega
theorem qoC{ps:List (Nat×Operand)}:(ps.mapM fun p=>qam p.2)=(ps.map fun p=>p.2).mapM qam:=by
 induction ps with
 | nil=>rfl
 | cons p ps ih=>simp[ih]
theorem qmF{P:Program}{t:TypeId}{kd:EqKd}{x y:V}(h:eqKd P t=some kd)(hk:eqOk kd x y=true):qgd P t x y=true:=by
 unfold eqKd at h;split at h <;> cases h <;> rename_i hd
 all_goals (cases x <;> first|(simp[eqOk] at hk;done)|(cases y <;> first|(simp[eqOk] at hk;done)|simp[qgd,hd]))
theorem qhi{E:En}{e:Env}{a:Act}{o:Option Operand}{x:Option Opd}{r:Option Int}(ht:Tmps E e a.tmps)(hc:(match o with|none=>some none|some y=>(qam y).map some)=some x)(h:qfJ e x=some r):
  ∃k:IntKind,o.map a.eval=r.map (Value.int k):=by
 cases o with
 | none=>simp at hc;subst hc;simp only[qfJ,Option.some.injEq] at h;subst h;exact ⟨.i64,rfl⟩
 | some y=>
  simp only at hc
  cases hy:qam y with
  | none=>rw[hy] at hc;cases hc
  | some z=>
   rw[hy] at hc;cases hc;simp only[qfJ] at h;split at h <;> cases h;rename_i k n hz;have:=qaw ht hy hz;cases hu:a.eval y <;> rw[hu] at this <;> cases this;exact ⟨k,by simp[hu]⟩
theorem qnA{P:Program}{E:En}{e:Env}{S S':St}{a:Act}{w:World}{o:Oper}{k:K}{r:V}(hc:qcb P o=some k)(he:evK e S k=some (r,S'))(ht:Tmps E e a.tmps)(hs:SR E S w):
  SimN P E S w (execOp a.eval o) r S':=by
 obtain ⟨dst,op,type,pos,after,guard⟩:=o;cases op <;> simp only[qcb] at hc <;> try (cases hc;done)
 case move x=>
  cases hx:qam x with
  | none=>rw[hx] at hc;cases hc
  | some x'=>
   rw[hx] at hc;cases hc;simp only[evK] at he
   cases hv:x'.ev e with
   | none=>rw[hv] at he;cases he
   | some v=>rw[hv] at he;cases he;exact SimN.val hs (qaw ht hx hv)
 case assign x=>
  cases hx:qam x with
  | none=>rw[hx] at hc;cases hc
  | some x'=>
   rw[hx] at hc;cases hc;simp only[evK] at he
   cases hv:x'.ev e with
   | none=>rw[hv] at he;cases he
   | some v=>rw[hv] at he;cases he;exact SimN.val hs (qaw ht hx hv)
 case pick c x y=>
  split at hc <;> cases hc;rename_i c' x' y' h1 h2 h3;simp only[evK] at he;split at he <;> try cases he
  rename_i t hb;have hcb:=qaw ht h1 hb;cases hu:a.eval c <;> rw[hu] at hcb <;> cases hcb
  cases t with
  | true=>
   simp only[if_true] at he
   cases hv:x'.ev e with
   | none=>rw[hv] at he;cases he
   | some v=>
    rw[hv] at he;cases he;exact ⟨.value (a.eval x),E,w,by simp[execOp,hu,asBool,Result.andThen],.inl ⟨_,rfl,qaw ht h2 hv⟩,hs,Ext.refl _ _ _ _,qtH _⟩
  | false=>
   simp only[qua,if_false] at he
   cases hv:y'.ev e with
   | none=>rw[hv] at he;cases he
   | some v=>
    rw[hv] at he;cases he;exact ⟨.value (a.eval y),E,w,by simp[execOp,hu,asBool,Result.andThen],.inl ⟨_,rfl,qaw ht h3 hv⟩,hs,Ext.refl _ _ _ _,qtH _⟩
 case alloc t=>
  split at hc <;> try cases hc
  rename_i i hi;split at hc <;> cases hc;rename_i z hz;simp only[evK] at he;exact (qmx (o:=.tuple #[]) hi hz hs (qdD E z) he).next
 case box t x=>
  cases hx:qam x with
  | none=>rw[hx] at hc;cases hc
  | some x'=>
   rw[hx] at hc;cases hc;simp only[evK] at he
   cases hv:x'.ev e with
   | none=>rw[hv] at he;cases he
   | some v=>rw[hv] at he;exact (qkO (t:=t) hs (qaw ht hx hv) he).next
 case build t ps=>
  split at hc <;> try cases hc
  rename_i i hi;split at hc <;> try cases hc
  rename_i z hz;split at hc <;> try cases hc
  rename_i cs l hcs hl;split at hc <;> cases hc;rename_i hall;unfold qhh at hl;split at hl <;> try cases hl
  rename_i sp hsp;simp only[evK] at he
  cases hev:qah e l with
  | none=>rw[hev] at he;cases he
  | some vs=>
   rw[hev] at he;simp only[qtT] at he
   cases hb:qal (.agg cs) (vs.map fun p=>p.2) with
   | none=>rw[hb] at he;cases he
   | some r'=>
    rw[hb] at he;cases he;obtain ⟨p1,p2,p3⟩:=qhq ht hsp hl hev;have hvz:VR E (.agg cs) z:=by rw[←hcs];exact qdD E z
    exact (qmu (us:=ps.map fun (i,x)=>(i,a.eval x)) hs hi hz hsp hvz rfl (by simp[p1]) (fun j p u hp hu=>by
     simp only[quU,qtK] at hu;obtain ⟨u',hu',rfl⟩:=hu
     exact p2 j p u' hp (by simpa using hu')) (fun p hp=>by
     obtain ⟨q,hq,h1,h2⟩:=p3 p hp;simp only[qtY,Bool.not_eq_true',qu4,beq_eq_false_iff_ne] at hall;have:=hall q hq;rintro ⟨h3,h4⟩;rcases this with h| h
     ·exact h (by omega)
     ·exact h (by rw[h2,h4];rfl)) hb).next
 case buildSlice t n ps=>
  split at hc <;> try cases hc
  rename_i sz l hsz hl;split at hc <;> cases hc;rename_i hn;obtain ⟨rfl,hrow⟩:=hn;simp only[evK] at he
  cases hev:evs e l with
  | none=>rw[hev] at he;cases he
  | some vs=>
   rw[hev] at he;simp only[qtT] at he;split at he <;> cases he;rename_i hf;rw[qoC] at hl;obtain ⟨p1,p2⟩:=qcp ht hl hev;have hlen:vs.length=ps.size:=by rw[p1];simp
   have:=qkw (P:=P) (us:=ps.map fun (i,x)=>(i,a.eval x)) hs (qlT hsz) (xs:=vs) (by simp[hlen]) (fun i x u hx hu=>by
    simp only[quU,qtK] at hu;obtain ⟨u',hu',rfl⟩:=hu;refine ⟨?_,p2 i x u'.2 hx (by simp;exact ⟨_,by simpa using hu'⟩)⟩;have:=qgm hrow i u' (by simpa using hu');simpa using this) hf.1 hf.2
   rw[hlen] at this;exact this.next
 case load t x=>
  split at hc <;> cases hc;rename_i k x' hk hx;simp only[evK] at he
  cases hv:x'.ev e with
  | none=>rw[hv] at he;cases he
  | some v=>
   rw[hv] at he;simp only[qtT] at he
   cases hl:ldS S v k with
   | none=>rw[hl] at he;cases he
   | some r'=>
    rw[hl] at he;cases he;obtain ⟨d,hd,hr⟩:=qiL (P:=P) hs (qaw ht hx hv) hk hl;exact (Sim.pure hs hd hr).next
 case store t x y=>
  split at hc <;> cases hc;rename_i i x' y' hi hx hy;simp only[evK] at he;split at he <;> try cases he
  rename_i p v hp hv
  cases hst:stS S p i.size v with
  | none=>rw[hst] at he;cases he
  | some S2=>
   rw[hst] at he;cases he;obtain ⟨w',h1,h2,h3,h4⟩:=qlw (P:=P) hs (qaw ht hx hp) (qaw ht hy hv) hi hst;exact ⟨.skip,E,w',by simp[execOp,h1,Result.andThen],.inr ⟨rfl,rfl⟩,h2,h3,h4⟩
 case nilCheck x=>
  cases hx:qam x with
  | none=>rw[hx] at hc;cases hc
  | some x'=>
   rw[hx] at hc;cases hc;simp only[evK] at he
   cases hv:x'.ev e with
   | none=>rw[hv] at he;cases he
   | some v=>
    rw[hv] at he;simp only[qtT] at he;split at he <;> cases he;rename_i htg;have hvr:=qaw ht hx hv;refine ⟨.value (a.eval x),E,w,?_,.inl ⟨_,rfl,hvr⟩,hs,Ext.refl _ _ _ _,qtH _⟩;generalize hu:a.eval x=u at hvr;cases hvr <;> simp[qbd] at htg <;> simp[execOp,hu];rename_i f fs cs us ws h1 h2 g1 g2;cases f <;> simp[qbd] at htg ⊢
 case binOp bop t x y yt=>
  split at hc <;> try cases hc
  rename_i x' y' hx hy;split at hc
  ·cases hc;simp only[evK] at he;split at he <;> try cases he
   rename_i u v hu hv
   cases hb:binV bop u v with
   | none=>rw[hb] at he;cases he
   | some r'=>
    rw[hb] at he;cases he;exact (qpl (t:=t) (ox:=x) (oy:=y) hs (qaw ht hx hu) (qaw ht hy hv) hb).next
  ·split at hc <;> try cases hc
   rename_i kd hkd
   have key:∀neg,(bop=if neg=true then BinOp.neq else BinOp.eql)→evK e S (.eq kd neg x' y')=some (r,S')→SimN P E S w (execOp a.eval ⟨dst,.binOp bop t x y yt,type,pos,after,guard⟩) r S':=by
    intro neg hop he;simp only[evK] at he;split at he <;> try cases he
    rename_i u v hu hv;split at he <;> try cases he
    rename_i hok
    cases hb:eqV u v with
    | none=>rw[hb] at he;cases he
    | some b=>
     rw[hb] at he;cases he;have:=qsh (op:=bop) (t:=t) (ox:=x) (oy:=y) hs (qaw ht hx hu) (qaw ht hy hv) hb (qmF hkd hok) (by rw[hop];cases neg <;> simp);cases neg
     ·subst hop;exact this.next
     ·subst hop;exact this.next
   split at hc <;> cases hc
   ·exact key false rfl he
   ·exact key true rfl he
 case unOp uop t x=>
  cases hx:qam x with
  | none=>rw[hx] at hc;cases hc
  | some x'=>
   rw[hx] at hc;cases hc;simp only[evK] at he
   cases hv:x'.ev e with
   | none=>rw[hv] at he;cases he
   | some v=>
    rw[hv] at he;simp only[qtT] at he
    cases hu:unV uop v with
    | none=>rw[hu] at he;cases he
    | some r'=>rw[hu] at he;cases he;exact (qr3 hs (qaw ht hx hv) hu).next
 case convert st d x=>
  split at hc <;> cases hc;rename_i k x' ht' hd hx;simp only[evK] at he;split at he <;> cases he;rename_i k' n hv;have hvr:=qaw ht hx hv;generalize hu:a.eval x=u at hvr;cases hvr;refine (Sim.pure (s:=convert st d (.int k' n)) (d:=.int k (k.wrap n)) hs ?_ (.int _ _)).next.cast ?_
  ·simp[convert,qad ht',qad hd,Result.andThen,Conv.intToInt]
  ·simp only[execOp,hu]
 case fieldAddr t x f=>
  split at hc <;> cases hc;rename_i off x' ho hx;simp only[evK] at he
  cases hv:x'.ev e with
  | none=>rw[hv] at he;cases he
  | some v=>
   rw[hv] at he;simp only[qtT] at he
   cases hf:faV v off with
   | none=>rw[hf] at he;cases he
   | some r'=>rw[hf] at he;cases he;exact (qr6 hs (qaw ht hx hv) ho hf).next
 case field t x f=>
  split at hc <;> cases hc;rename_i off k x' ho hx;simp only[evK] at he
  cases hv:x'.ev e with
  | none=>rw[hv] at he;cases he
  | some v=>
   rw[hv] at he;simp only[qtT] at he;split at he <;> try cases he
   rename_i hag
   cases hf:v.part off k with
   | none=>rw[hf] at he;cases he
   | some r'=>rw[hf] at he;cases he;exact (qny hs (qaw ht hx hv) hag ho hf).next
 case indexAddr t x i=>
  split at hc <;> cases hc;rename_i sz x' i' hsz hx hi;simp only[evK] at he;split at he <;> try cases he
  rename_i p kk ix hp hix;have hvr:=qaw ht hi hix;generalize hu:a.eval i=u at hvr;cases hvr
  cases hf:iaS S sz p ix with
  | none=>rw[hf] at he;cases he
  | some r'=>
   rw[hf] at he;cases he;have:=qr8 (P:=P) (k:=kk) hs (qaw ht hx hp) hsz hf;rw[←hu] at this;exact this.next
 case index t x i=>
  split at hc <;> cases hc;rename_i x' i' hd hx hi;simp only[evK] at he;split at he <;> try cases he
  rename_i s kk ix hp hix;have h1:=qaw ht hi hix;have h2:=qaw ht hx hp;generalize hu:a.eval i=u at h1;generalize hv:a.eval x=v at h2;cases h1;cases h2
  cases hf:idxV s ix with
  | none=>rw[hf] at he;cases he
  | some r'=>
   rw[hf] at he;cases he;have:=qpq (P:=P) (k:=kk) hs hd hf;rw[←hu,←hv] at this;exact this.next
 case slice t x lo hi mx=>
  cases mx with
  | some m=>cases hc
  | none=>
   simp only at hc;split at hc <;> try cases hc
   rename_i x' lo' hi' hx hlo hhi
   have key:∀(s:Bool) (sz:Nat),(s=true→P.underlying t=some .string)→(s=false→qcZ P t=some sz)→evK e S (.slc s sz x' lo' hi')=some (r,S')→SimN P E S w (execOp a.eval ⟨dst,.slice t x lo hi none,type,pos,after,guard⟩) r S':=by
    intro s sz h1 h2 he;simp only[evK] at he;split at he <;> try cases he
    rename_i d l h hd hl hh;obtain ⟨k1,e1⟩:=qhi ht hlo hl;obtain ⟨k2,e2⟩:=qhi ht hhi hh;have hdr:=qaw ht hx hd;split at he <;> try cases he
    ·rename_i b;generalize hu:a.eval x=u at hdr;cases hdr
     cases hf:qbJ S sz (.str b) l h with
     | none=>rw[hf] at he;cases he
     | some r'=>
      rw[hf] at he;cases he;exact (qhV (P:=P) (k:=k1) (k':=k2) hs (h1 rfl) hf).next.cast (by simp[execOp,hu,e1,e2])
    ·rename_i xx xs
     cases hf:qbJ S sz (.sl xx xs) l h with
     | none=>rw[hf] at he;cases he
     | some r'=>
      rw[hf] at he;cases he;exact (qhX (P:=P) (k:=k1) (k':=k2) hs (h2 rfl) hdr hf (fun s=>by simp)).next.cast (by simp[execOp,e1,e2])
    ·rename_i al ao an ast
     cases hf:qbJ S sz (.arr al ao an ast) l h with
     | none=>rw[hf] at he;cases he
     | some r'=>
      rw[hf] at he;cases he;exact (qhX (P:=P) (k:=k1) (k':=k2) hs (h2 rfl) hdr hf (fun s=>by simp)).next.cast (by simp[execOp,e1,e2])
   split at hc
   ·rename_i hd;cases hc;exact key true 0 (fun _=>hd) (fun h=>by cases h) he
   ·split at hc <;> cases hc;rename_i sz hsz;exact key false sz (fun h=>by cases h) (fun _=>hsz) he
 case extract x i=>
  cases hx:qam x with
  | none=>rw[hx] at hc;cases hc
  | some x'=>
   rw[hx] at hc;cases hc;simp only[evK] at he;split at he <;> try cases he
   rename_i vs hv
   cases hi:vs[i]? with
   | none=>rw[hi] at he;cases he
   | some r'=>rw[hi] at he;cases he;exact (qh0 hs (qaw ht hx hv) hi).next
 case makeFunc fn fs cs=>
  cases fn <;> try cases hc
  rename_i kf;simp only at hc;split at hc <;> cases hc;rename_i fs' cs' hfs hcs;simp only[evK] at he;split at he <;> cases he;rename_i us vs hus hvs;obtain ⟨a1,a2⟩:=qcp ht hfs hus;obtain ⟨b1,b2⟩:=qcp ht hcs hvs;refine (Sim.pure (d:=.func (.func kf) (fs.map a.eval) (cs.map a.eval)) hs (by simp[Instr.makeFunc]) (.fn (by simp[a1]) (by simp[b1]) (fun i v u hv hu=>?_) (fun i v u hv hu=>?_))).next
  ·simp only[quU,qtK] at hu;obtain ⟨o,ho,rfl⟩:=hu;exact a2 i v o hv (by simpa using ho)
  ·simp only[quU,qtK] at hu;obtain ⟨o,ho,rfl⟩:=hu;exact b2 i v o hv (by simpa using ho)
 case call c=>
  obtain ⟨callee,args,argTypes⟩:=c;simp only at hc;split at hc <;> try cases hc
  ·rename_i f args' hargs
   cases hf:qam f with
   | none=>rw[hf] at hc;cases hc
   | some f'=>rw[hf] at hc;cases hc;cases he
  ·rename_i x' hargs;split at hc <;> try cases hc
   rename_i t ht0
   have hx:∃x,args=#[x]∧qam x=some x':=by
    have hl:args.toList.mapM qam=some [x']:=hargs
    cases hargs':args.toList with
    | nil=>rw[hargs'] at hl;simp at hl
    | cons x xs=>
     rw[hargs'] at hl;simp only[quN,quw] at hl
     cases hc1:qam x with
     | none=>rw[hc1] at hl;simp at hl
     | some y=>
      rw[hc1] at hl
      cases hr:xs.mapM qam with
      | none=>rw[hr] at hl;simp at hl
      | some ys=>
       rw[hr] at hl;simp at hl;obtain ⟨rfl,rfl⟩:=hl
       cases xs with
       | nil=>exact ⟨x,by apply qvr.1;rw[hargs'],hc1⟩
       | cons z zs=>
        simp only[quN,quw] at hr
        cases h1:qam z with
        | none=>rw[h1] at hr;simp at hr
        | some y1=>
         rw[h1] at hr
         cases h2:zs.mapM qam with
         | none=>rw[h2] at hr;simp at hr
         | some y2=>rw[h2] at hr;simp at hr
   obtain ⟨x,rfl,hx⟩:=hx
   have run:∀u:Value,(Builtin.len_ argTypes type #[a.eval x]).run P w=.ok u w→(execOp a.eval ⟨dst,.call ⟨.builtin .len,#[x],argTypes⟩,type,pos,after,guard⟩).run P w=.ok (.value u) w:=fun u hu=>by
    simp[execOp,resolve,invoke,builtin,hu,Result.andThen]
   split at hc <;> cases hc
   ·rename_i hd;simp only[evK] at he
    cases hv:x'.ev e with
    | none=>rw[hv] at he;cases he
    | some v=>
     rw[hv] at he;simp only[qtT] at he;split at he <;> first|contradiction|(cases he;done)|skip
     cases he;rename_i b hb;have hvr:=qaw ht hx hv;generalize hu:a.eval x=u at hvr;cases hvr;exact ⟨.value (.int .i64 b.size),E,w,run _ (by simp[Builtin.len_,ht0,hu,qad hd,Result.andThen,goInt]),.inl ⟨_,rfl,.int _ _⟩,hs,Ext.refl _ _ _ _,qtH _⟩
   ·rename_i el hd;simp only[evK] at he
    cases hv:x'.ev e with
    | none=>rw[hv] at he;cases he
    | some v=>
     rw[hv] at he;simp only[qtT] at he;have hvr:=qaw ht hx hv;split at he <;> first|contradiction|(cases he;done)|skip
     ·cases he;rename_i b xs hb;generalize hu:a.eval x=u at hvr;cases hvr <;> exact ⟨.value (.int .i64 _),E,w,run _ (by simp[Builtin.len_,ht0,hu,qad hd,Result.andThen,goInt]),.inl ⟨_,rfl,.int _ _⟩,hs,Ext.refl _ _ _ _,qtH _⟩
     ·cases he;rename_i l off n st hb;generalize hu:a.eval x=u at hvr;cases hvr;exact ⟨.value (.int .i64 _),E,w,run _ (by simp[Builtin.len_,ht0,hu,qad hd,Result.andThen,goInt]),.inl ⟨_,rfl,.int _ _⟩,hs,Ext.refl _ _ _ _,qtH _⟩
  ·rename_i d' x' hargs
   cases hp:qlB P argTypes with
   | none=>rw[hp] at hc;cases hc
   | some pr=>
    obtain ⟨sz,bytes⟩:=pr;rw[hp] at hc;cases hc;simp only[evK] at he;split at he <;> try cases he
    rename_i u v hu hv;have hl:args.toList.mapM qam=some [d',x']:=hargs;have hev:evs e [d',x']=some [u,v]:=by simp[evs,hu,hv]
    obtain ⟨l1,l2⟩:=qcp ht hl hev;have hsz:args.size=2:=by simpa using l1.symm
    obtain ⟨o1,o2,rfl⟩:∃o1 o2,args=#[o1,o2]:=by
     obtain ⟨l⟩:=args
     match l,hsz with
     | [o1,o2],_=>exact ⟨o1,o2,rfl⟩
    have r1:=l2 0 u o1 rfl rfl;have r2:=l2 1 v o2 rfl rfl;obtain ⟨d,E',w',h1,h2,h3⟩:=qkf (P:=P) (T:=type) hs (qki hp) r1 r2 he;exact ⟨.value d,E',w',by simp[execOp,resolve,invoke,builtin,h1,Result.andThen],.inl ⟨d,rfl,h2⟩,h3⟩
