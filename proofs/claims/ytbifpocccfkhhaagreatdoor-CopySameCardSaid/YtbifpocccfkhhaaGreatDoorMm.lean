/- CopySame: for all statements, in every laid world, the law returns true (its tied card). Conditions: none. -/
import Derived.Test.YtbifpocccfkhhaaGreatDoorMl
import Derived.Shelf.SlIter.Nil
import Derived.Shelf.SortM.Plain
import Derived.Shelf.SortM.SortNone
import Derived.Ground.GgzProg
import Derived.Ground.SlgmProg
set_option linter.all false
noncomputable section
namespace Go.Proofs.YtbifpocccfkhhaaGreatDoor
open Go Go.Proofs.Tryz
def Coll(s:Sm)(S:St)(r:V)(U:St):Prop:=∃(m c4 c5 c6:Nat) (v:V) (ps:List Nat) (F D:Nat→Prop),r=.tup [.map m,v]∧Co m c4 c5 c6 (s.wholeH coP ([],[])) v ps F D U∧Kp (fun _=>False) S U∧(∀l,F l∨D l→S.length≤l)
theorem qiE(y:V):V.upd .nilmap 0 1 y=if y.size=1∧y.cells.all V.flat=true then some y else none:=rfl
theorem qpV(s:Sm)(hs:s.ok)(hsz:(Pa.st s).size≤4000)(hn:Sm.nb1 [s]≤100000)(S:St):Spec prog 58 [s.v] S (fun r U=>Coll s S r U):=by
 refine Spec.intro func58 ok58 (by simp[c58]) ?_;simp[c58,boxS,ldS,stS,qaq,qa2,qaQ,evX,qiE,qkS];obtain ⟨B,hB⟩:∃B,B=S.length:=⟨_,rfl⟩;obtain ⟨S1,hS1⟩:∃S1:St,S1=S++[.arr [s.v] 8 1,.map [] [] 0,.arr [.map (B+1)] 1 1,.arr [.sl true []] 1 1,.arr [.fn (.func 107) [] [.ptr (B+2) 0 0 1]] 1 1,.arr [.agg [.int .i64 0,.fn (.func 108) [] [.ptr (B+3) 0 0 1],.fn (.func 109) [] [.ptr (B+4) 0 0 1],.fn (.func 110) [] [.ptr (B+4) 0 0 1]]] 4 1]:=⟨_,rfl⟩;rw[←hB,←hS1];have l1:S1.length=B+6:=by rw[hS1,hB];simp
 have g:∀j o,[Ob.arr [s.v] 8 1,.map [] [] 0,.arr [.map (B+1)] 1 1,.arr [.sl true []] 1 1,.arr [.fn (.func 107) [] [.ptr (B+2) 0 0 1]] 1 1,.arr [.agg [.int .i64 0,.fn (.func 108) [] [.ptr (B+3) 0 0 1],.fn (.func 109) [] [.ptr (B+4) 0 0 1],.fn (.func 110) [] [.ptr (B+4) 0 0 1]]] 4 1][j]?=some o→S1[B+j]?=some o:=fun j o ho=>by
  rw[hS1,qq3 (by omega),hB,qsd,←hB];exact ho
 have kS:Kp (fun _=>False) S S1:=by rw[hS1];exact (Kp.refl _ _).push _
 have k1:Co (B+1) (B+2) (B+3) (B+4) ([],[]) (.sl true []) [] (fun l=>l=B+1∨l=B+3) (fun l=>l=B+2∨l=B+4) S1:=
  ⟨g 2 _ rfl,⟨[],0,Stam.nil,g 1 _ rfl⟩,g 3 _ rfl,g 4 _ rfl,.inl ⟨rfl,rfl⟩,rfl,fun i p x h=>by simp at h,fun l hl=>hl.imp id .inl,fun l hl=>hl.imp id .inl,.inl rfl,.inr rfl,.inl rfl,.inr rfl⟩
 have hw:Wk (coC (B+1) (B+2) (B+3) (B+4)) (B+5) 0 ([],[]) (fun l=>l=B+1∨l=B+3) (fun l=>l=B+2∨l=B+4) S1:=⟨g 5 _ rfl,⟨_,_,k1⟩,by omega,by omega,rfl⟩;clear g hS1 k1;refine qan (qmW (coC (B+1) (B+2) (B+3) (B+4)) (qpW _ _ _ _) (B+5) s hs hsz ([],[]) _ _ S1 hw hn) ?_;rintro r U ⟨rfl,F2,D2,k2,s2⟩;obtain ⟨v,ps,kk⟩:=k2.st;have h4:=kk.f4;have h5:=kk.f5;have hvc:v.cells=[v]:=by rcases kk.gr with ⟨_,rfl⟩|⟨a,wr,rfl,_⟩ <;> rfl
 simp[ldS,h4,h5,hvc,dend,qcs,qc5];refine qah rfl ⟨_,_,_,_,_,_,_,_,rfl,kk,⟨qrJ kS.len s2.k.len,fun l hl hn=>?_⟩,fun l hl=>?_⟩
 ·rw[s2.k.get l (by omega) (by rintro (hh|hh|hh) <;> omega)];exact kS.get l hl hn
 ·rcases hl with hl|hl
  ·rcases s2.gF l hl with (h|h)|h <;> omega
  ·rcases s2.gD l hl with (h|h)|h <;> omega
mutual
def Ex.occ:Ex→List ByteArray
 | .mk k _ _ _ _ t a=>Ex.occl a++(if Ex.named k then [t] else [])
def Ex.occl:List Ex→List ByteArray
 | []=>[]
 | x::l=>Ex.occ x++Ex.occl l
end
def El.occl:List El→List ByteArray
 | []=>[]
 | x::l=>Ex.occl x.exps++El.occl l
mutual
def Sm.occ:Sm→List ByteArray
 | .mk _ k t g e h d b=>if k=7 then De.occl d++Sm.occl b else if k=8 then Sm.occl b else Ex.occl g++Ex.occl e++El.occl h++Sm.occl b++(if k=6 then [t] else [])
def De.occ:De→List ByteArray
 | .mk k _ _ _ e _ b=>if k=4 then Sm.occl b else Ex.occl e
def De.occl:List De→List ByteArray
 | []=>[]
 | x::l=>De.occ x++De.occl l
def Sm.occl:List Sm→List ByteArray
 | []=>[]
 | x::l=>Sm.occ x++Sm.occl l
end
section
variable {f:Nat→ByteArray} {nm:ByteArray→Bool} (hf:∀k,nm (f k)=false)
def fsto(h:coP.H):List ByteArray:=Prod.fst (α:=List ByteArray) (β:=List ByteArray) h
theorem qa3(s:Sco):∀h:coP.H,fsto (enters coP h s)=fsto h:=by
 induction s with
 | nil=>intro h;rfl
 | cons e s ih=>intro h;exact ih _
include hf
theorem qk4(h:coP.H)(sc:Scs)(t:ByteArray)(ht:nm t=true):fsto (coP.clH h t sc)=fsto h++[reto f sc t].filter nm:=by
 show Prod.fst (coU h t sc)=_;unfold coU reto fsto
 cases sc.at t with
 | none=>simp[ht]
 | some k=>simp[hf]
omit hf in
theorem qm0(sc:Scs)(tg:Bool)(h:coP.H)(k o n m e:Int)(t:ByteArray)(a:List Ex):coP.nmS sc tg h (.mk k o n m e t a)=if Ex.named k=true then coP.clH h t sc else h:=rfl
omit hf in
theorem qmY(sc:Scs)(k:Int)(h:coP.H)(t:ByteArray):coP.clS sc k h t=if k=6 then coP.clH h t sc else h:=rfl
def coZ:coP.H:=(([],[]):List ByteArray×List ByteArray)
mutual
theorem Ex.fr(sc:Scs)(tg:Bool):∀(x:Ex) (h:coP.H),(Pa.ex x).valid nm=true→fsto (Ex.hs coP sc tg h x)=fsto h++(Ex.occ (x.w f sc)).filter nm
 | .mk k o n m e t a,h,v=>by
  have ha:=Ex.frl sc false a h (Ex.valid_args v);rw[Ex.hs,Ex.w,Ex.occ,qse,←qrk,←ha];rw[qm0];by_cases hk:Ex.named k=true
  ·rw[if_pos hk,if_pos hk,if_pos hk];exact qk4 hf _ sc t (Ex.valid_text v hk)
  ·rw[if_neg hk,if_neg hk,List.filter_nil,qsm]
theorem Ex.frl(sc:Scs)(tg:Bool):∀(l:List Ex) (h:coP.H),(∀x,x∈l→(Pa.ex x).valid nm=true)→fsto (Ex.hsl coP sc tg h l)=fsto h++(Ex.occl (Ex.wl f sc l)).filter nm
 | [],h,_=>by simp[Ex.hsl,Ex.wl,Ex.occl]
 | x::l,h,v=>by
  rw[Ex.hsl,Ex.wl,Ex.occl,Ex.frl sc tg l _ fun y hy=>v y (by simp[hy])];have:=Ex.fr sc tg x h (v x (by simp));rw[qse,←qrk,←this]
end
theorem El.frl(sc:Scs):∀(l:List El) (h:coP.H),(∀x,x∈l→(Pa.el x).valid nm=true)→fsto (El.hsl coP sc h l)=fsto h++(El.occl (l.map (El.w f sc))).filter nm
 | [],h,_=>by simp[El.hsl,El.occl]
 | x::l,h,v=>by
  have h1:=Ex.frl hf sc false x.exps h (fun y hy=>(Pa.valid_iff.1 (v x (by simp))).2 _ (by simp only[Pa.kids];exact qrR hy));have h2:=El.frl sc l (Ex.hsl coP sc false h x.exps) fun y hy=>v y (by simp[hy])
  show fsto (El.hsl coP sc (Ex.hsl coP sc false h x.exps) l)=_;rw[h2,h1,qrm,El.occl,qse,←qrk];unfold El.w;rw[←Ex.wl_map]
mutual
theorem Sm.fr:∀(s:Sm) (sc:Scs) (n:Nat) (h:coP.H),(Pa.st s).valid nm=true→fsto (Sm.hs coP sc n h s)=fsto h++(s.w f sc n).occ.filter nm
 | .mk l k t g e el d b,sc,n,h,v=>by
  obtain ⟨v7,v8,v9⟩:=Sm.valid_block v;have vd:=Sm.valid_decls v;have vb:=Sm.valid_body v;have vg:=Sm.valid_targets v;have ve:=Sm.valid_exps v;have vl:=Sm.valid_elems v;have vt:=Sm.valid_text v;simp only[Sm.decls,Sm.body,Sm.targets,Sm.exps,Sm.elems,Sm.kind,Sm.text] at vd vb vg ve vl vt;rw[Sm.hs,Sm.w];by_cases h7:k=7
  ·obtain ⟨rfl,rfl,rfl⟩:=v7 h7;rw[if_pos h7,if_pos h7,Sm.occ,if_pos h7,qse,←qrk];rw[Sm.frl b _ _ _ vb,De.frl d _ _ _ _ vd,qa3];rfl
  ·rw[if_neg h7,if_neg h7];by_cases h8:k=8
   ·obtain ⟨rfl,rfl,rfl,rfl⟩:=v8 h8;rw[if_pos h8,if_pos h8,Sm.occ,if_neg h7,if_pos h8];rw[Sm.frl b _ _ _ vb,qa3];rfl
   ·obtain rfl:=v9 h7 h8;rw[if_neg h8,if_neg h8,Sm.occ,if_neg h7,if_neg h8];have e1:=Ex.frl hf sc true g h vg;have e2:=Ex.frl hf sc false e (Ex.hsl coP sc true h g) ve;have e3:=El.frl hf sc el (Ex.hsl coP sc false (Ex.hsl coP sc true h g) e) vl;have e4:=Sm.fr1 b sc n (El.hsl coP sc (Ex.hsl coP sc false (Ex.hsl coP sc true h g) e) el) vb;rw[e3,e2,e1] at e4;simp only[qse];rw[qmY];by_cases h6:k=6
    ·rw[if_pos h6,if_pos h6,if_pos h6];have e5:=qk4 hf (Sm.hs1 coP sc n (El.hsl coP sc (Ex.hsl coP sc false (Ex.hsl coP sc true h g) e) el) b) sc t (vt h6);refine Eq.trans e5 ?_;rw[e4];simp only[qrk]
    ·rw[if_neg h6,if_neg h6];refine Eq.trans e4 ?_;simp only[qrk,List.filter_nil,qsm]
theorem De.fr:∀(s:De) (own sc:Scs) (n:Nat) (h:coP.H),(Pa.de s).valid nm=true→fsto (De.hs coP own sc n h s)=fsto h++(s.w f own sc n).occ.filter nm
 | .mk k o t ns e fo b,own,sc,n,h,v=>by
  obtain ⟨v4,v5⟩:=De.valid_proc v;have vb:=De.valid_body v;have ve:=De.valid_exps v;simp only[De.body,De.exps] at vb ve;rw[De.hs,De.w];by_cases h4:k=4
  ·obtain rfl:=v4 h4;rw[if_pos h4,if_pos h4,De.occ,if_pos h4,Sm.fr1 b _ _ _ vb,qa3];rfl
  ·obtain ⟨rfl,rfl⟩:=v5 h4;rw[if_neg h4,if_neg h4,De.occ,if_neg h4];exact Ex.frl hf _ _ e h ve
theorem De.frl:∀(l:List De) (own sc:Scs) (n:Nat) (h:coP.H),(∀x,x∈l→(Pa.de x).valid nm=true)→fsto (De.hsl coP own sc n h l)=fsto h++(De.occl (De.wl f own sc n l)).filter nm
 | [],_,_,_,h,_=>by simp[De.hsl,De.wl,De.occl]
 | x::l,own,sc,n,h,v=>by
  rw[De.hsl,De.wl,De.occl,De.frl l own sc _ _ fun y hy=>v y (by simp[hy]),De.fr x own sc n h (v x (by simp)),qse,qrk]
theorem Sm.frl:∀(l:List Sm) (sc:Scs) (n:Nat) (h:coP.H),(∀x,x∈l→(Pa.st x).valid nm=true)→fsto (Sm.hsl coP sc n h l)=fsto h++(Sm.occl (Sm.wl f sc n l)).filter nm
 | [],_,_,h,_=>by simp[Sm.hsl,Sm.wl,Sm.occl]
 | x::l,sc,n,h,v=>by
  rw[Sm.hsl,Sm.wl,Sm.occl,Sm.frl l sc _ _ fun y hy=>v y (by simp[hy]),Sm.fr x sc n h (v x (by simp)),qse,qrk]
theorem Sm.fr1:∀(l:List Sm) (sc:Scs) (n:Nat) (h:coP.H),(∀x,x∈l→(Pa.st x).valid nm=true)→fsto (Sm.hs1 coP sc n h l)=fsto h++(Sm.occl (Sm.w1 f sc n l)).filter nm
 | [],_,_,h,_=>by simp[Sm.hs1,Sm.w1,Sm.occl]
 | x::l,sc,n,h,v=>by
  rw[Sm.hs1,Sm.w1,Sm.occl,Sm.fr1 l sc _ _ fun y hy=>v y (by simp[hy]),Sm.fr x _ _ _ (v x (by simp)),qa3,qse,qrk]
end
theorem Sm.free_occ(s:Sm)(v:(Pa.st s).valid nm=true):fsto (s.wholeH coP coZ)=(s.whole f).occ.filter nm:=by
 have:=Sm.fr hf s [qaf s.labels 0] (qaf s.labels 0).length (enters coP coZ (qaf s.labels 0)) v;refine this.trans ?_;show fsto (enters coP coZ (qaf s.labels 0))++_=_;rw[qa3];rfl
end
end Go.Proofs.YtbifpocccfkhhaaGreatDoor
namespace Go.Proofs
open Go.Shelf
def Tryz.keys137_ren:Go.Shelf.Ren:=⟨fun|7=>137|10=>172|n=>n,fun|23=>89|26=>9|3=>4|28=>168|0=>0|27=>167|33=>35|4=>4|n=>n,fun|n=>n⟩
theorem Tryz.keys137:Go.Proofs.SlLaysZ.n7 Tryz.prog Tryz.keys137_ren:={
 mixed:=by kernel_rfl
 f7:=⟨Tryz.f137.name,by decide,Tryz.func137.trans (congrArg some (by kernel_rfl))⟩
 f10:=⟨Tryz.f172.name,by decide,Tryz.func172.trans (congrArg some (by kernel_rfl))⟩
 t0:=Tryz.underlying0
 a0:=Tryz.isAgg0
 z0:=Tryz.sizeOf0
 v0:=Tryz.zeroValue0
 t4:=Tryz.underlying4
 a4:=Tryz.isAgg4
 z4:=Tryz.sizeOf4
 v4:=Tryz.zeroValue4
 t23:=Tryz.underlying89
 a23:=Tryz.isAgg89
 z23:=Tryz.sizeOf89
 v23:=Tryz.zeroValue89
 t26:=Tryz.underlying9
 a26:=Tryz.isAgg9
 z26:=Tryz.sizeOf9
 v26:=Tryz.zeroValue9
 t27:=Tryz.underlying167
 a27:=Tryz.isAgg167
 z27:=Tryz.sizeOf167
 v27:=Tryz.zeroValue167
 t28:=Tryz.underlying168
 a28:=Tryz.isAgg168
 z28:=Tryz.sizeOf168
 v28:=Tryz.zeroValue168
 t33:=Tryz.underlying35
 a33:=Tryz.isAgg35
 z33:=Tryz.sizeOf35
 v33:=Tryz.zeroValue35 }
def Tryz.sorted136_ren:Go.Shelf.Ren:=⟨fun|6=>136|8=>170|9=>171|11=>197|13=>199|12=>198|23=>247|24=>248|14=>238|15=>239|16=>240|17=>241|18=>242|19=>243|20=>244|21=>245|22=>246|25=>263|26=>264|27=>265|28=>266|29=>267|30=>268|31=>276|n=>n,fun|26=>9|28=>168|24=>22|0=>0|3=>3|37=>213|48=>254|50=>239|4=>4|40=>246|39=>245|45=>251|5=>5|9=>9|51=>266|55=>270|57=>286|58=>219|33=>35|n=>n,fun|n=>n⟩
theorem Tryz.sorted136:Go.Proofs.SlLaysZ.n6 Tryz.prog Tryz.sorted136_ren:={
 mixed:=by kernel_rfl
 f6:=⟨Tryz.f136.name,by decide,Tryz.func136.trans (congrArg some (by kernel_rfl))⟩
 f8:=⟨Tryz.f170.name,by decide,Tryz.func170.trans (congrArg some (by kernel_rfl))⟩
 f11:=⟨Tryz.f197.name,by decide,Tryz.func197.trans (congrArg some (by kernel_rfl))⟩
 t0:=Tryz.underlying0
 a0:=Tryz.isAgg0
 z0:=Tryz.sizeOf0
 v0:=Tryz.zeroValue0
 t24:=Tryz.underlying22
 a24:=Tryz.isAgg22
 z24:=Tryz.sizeOf22
 v24:=Tryz.zeroValue22
 t26:=Tryz.underlying9
 a26:=Tryz.isAgg9
 z26:=Tryz.sizeOf9
 v26:=Tryz.zeroValue9
 t28:=Tryz.underlying168
 a28:=Tryz.isAgg168
 z28:=Tryz.sizeOf168
 v28:=Tryz.zeroValue168
 i26:=by kernel_rfl }
def Tryz.sort171_ren:Go.Shelf.Ren:=⟨fun|6=>171|8=>199|9=>198|19=>247|20=>248|21=>238|22=>239|23=>240|24=>241|25=>242|26=>243|27=>244|28=>245|29=>246|36=>263|31=>264|32=>265|37=>266|38=>267|39=>268|41=>276|n=>n,fun|27=>22|29=>9|3=>3|32=>213|26=>22|0=>0|44=>254|46=>239|4=>4|36=>246|35=>245|41=>251|5=>5|9=>9|53=>266|57=>270|63=>286|64=>219|n=>n,fun|n=>n⟩
theorem Tryz.sort171:Go.Proofs.SlLaysM.n6 Tryz.prog Tryz.sort171_ren:={
 mixed:=by kernel_rfl
 f6:=⟨Tryz.f171.name,by decide,Tryz.func171.trans (congrArg some (by kernel_rfl))⟩
 f8:=Tryz.func199.trans (congrArg some (by kernel_rfl))
 f9:=⟨Tryz.f198.name,by decide,Tryz.func198.trans (congrArg some (by kernel_rfl))⟩
 f19:=Tryz.func247.trans (congrArg some (by kernel_rfl))
 f20:=Tryz.func248.trans (congrArg some (by kernel_rfl))
 f21:=⟨Tryz.f238.name,by decide,Tryz.func238.trans (congrArg some (by kernel_rfl))⟩
 f22:=⟨Tryz.f239.name,by decide,Tryz.func239.trans (congrArg some (by kernel_rfl))⟩
 f23:=⟨Tryz.f240.name,by decide,Tryz.func240.trans (congrArg some (by kernel_rfl))⟩
 f24:=⟨Tryz.f241.name,by decide,Tryz.func241.trans (congrArg some (by kernel_rfl))⟩
 f25:=⟨Tryz.f242.name,by decide,Tryz.func242.trans (congrArg some (by kernel_rfl))⟩
 f26:=⟨Tryz.f243.name,by decide,Tryz.func243.trans (congrArg some (by kernel_rfl))⟩
 f27:=⟨Tryz.f244.name,by decide,Tryz.func244.trans (congrArg some (by kernel_rfl))⟩
 f28:=⟨Tryz.f245.name,by decide,Tryz.func245.trans (congrArg some (by kernel_rfl))⟩
 f29:=⟨Tryz.f246.name,by decide,Tryz.func246.trans (congrArg some (by kernel_rfl))⟩
 f31:=Tryz.func264.trans (congrArg some (by kernel_rfl))
 f32:=Tryz.func265.trans (congrArg some (by kernel_rfl))
 f36:=⟨Tryz.f263.name,by decide,Tryz.func263.trans (congrArg some (by kernel_rfl))⟩
 f37:=⟨Tryz.f266.name,by decide,Tryz.func266.trans (congrArg some (by kernel_rfl))⟩
 f38:=⟨Tryz.f267.name,by decide,Tryz.func267.trans (congrArg some (by kernel_rfl))⟩
 f39:=⟨Tryz.f268.name,by decide,Tryz.func268.trans (congrArg some (by kernel_rfl))⟩
 f41:=⟨Tryz.f276.name,by decide,Tryz.func276.trans (congrArg some (by kernel_rfl))⟩
 t0:=Tryz.underlying0
 a0:=Tryz.isAgg0
 z0:=Tryz.sizeOf0
 v0:=Tryz.zeroValue0
 t3:=Tryz.underlying3
 a3:=Tryz.isAgg3
 z3:=Tryz.sizeOf3
 v3:=Tryz.zeroValue3
 t4:=Tryz.underlying4
 a4:=Tryz.isAgg4
 z4:=Tryz.sizeOf4
 v4:=Tryz.zeroValue4
 t5:=Tryz.underlying5
 a5:=Tryz.isAgg5
 z5:=Tryz.sizeOf5
 v5:=Tryz.zeroValue5
 t9:=Tryz.underlying9
 a9:=Tryz.isAgg9
 z9:=Tryz.sizeOf9
 v9:=Tryz.zeroValue9
 t26:=Tryz.underlying22
 a26:=Tryz.isAgg22
 z26:=Tryz.sizeOf22
 v26:=Tryz.zeroValue22
 t27:=Tryz.underlying22
 a27:=Tryz.isAgg22
 z27:=Tryz.sizeOf22
 v27:=Tryz.zeroValue22
 t29:=Tryz.underlying9
 a29:=Tryz.isAgg9
 z29:=Tryz.sizeOf9
 v29:=Tryz.zeroValue9
 t32:=Tryz.underlying213
 a32:=Tryz.isAgg213
 z32:=Tryz.sizeOf213
 v32:=Tryz.zeroValue213
 t35:=Tryz.underlying245
 a35:=Tryz.isAgg245
 z35:=Tryz.sizeOf245
 v35:=Tryz.zeroValue245
 t36:=Tryz.underlying246
 a36:=Tryz.isAgg246
 z36:=Tryz.sizeOf246
 v36:=Tryz.zeroValue246
 t41:=Tryz.underlying251
 a41:=Tryz.isAgg251
 z41:=Tryz.sizeOf251
 v41:=Tryz.zeroValue251
 t44:=Tryz.underlying254
 a44:=Tryz.isAgg254
 z44:=Tryz.sizeOf254
 v44:=Tryz.zeroValue254
 t46:=Tryz.underlying239
 a46:=Tryz.isAgg239
 z46:=Tryz.sizeOf239
 v46:=Tryz.zeroValue239
 t53:=Tryz.underlying266
 a53:=Tryz.isAgg266
 z53:=Tryz.sizeOf266
 v53:=Tryz.zeroValue266
 t57:=Tryz.underlying270
 a57:=Tryz.isAgg270
 z57:=Tryz.sizeOf270
 v57:=Tryz.zeroValue270
 t63:=Tryz.underlying286
 a63:=Tryz.isAgg286
 z63:=Tryz.sizeOf286
 v63:=Tryz.zeroValue286
 t64:=Tryz.underlying219
 a64:=Tryz.isAgg219
 z64:=Tryz.sizeOf219
 v64:=Tryz.zeroValue219 }
end Go.Proofs
namespace Go.Proofs
open Go.RowKit Go.Maps Go.Sort Go.Shelf
theorem Tryz.sorts136(m:Nat):AnyZ.SortsIn Tryz.prog Tryz.sorted136_ren Fence.wide m:=
 ⟨fun blk off cap ss W hH hblk hsz=>callsIn_wide.2 (AnyM.slices_Sort_string Tryz.sort171 blk off cap ss W hH hblk hsz),
  fun p cap W=>callsIn_wide.2 (AnyM.slices_Sort_string_none Tryz.sort171 p cap W)⟩
theorem Tryz.maps_Keys_137(mb:Option Nat)(W:World):CallsIn Fence.wide 5 Tryz.prog 137 #[.map mb] W fun e w'=>e=.returned (.func (.func 172) #[] #[.pointer (some ⟨W.heap.size,0,none⟩)])∧w'=W.alloc (.cells #[.map mb] 89):=
 AnyZ.keys_in Tryz.keys137 Fence.wide 5 trivial rfl mb W
set_option maxHeartbeats 1000000 in
theorem Tryz.slices_Sorted_keys_136_137{H:Type}(b nn:Nat)(D0:DataW H)(R:Value→Option (DataW H×List MemPlace))(w:World)(hown:w.ownsMap Tryz.prog 9 R b nn D0)(hmax:Maps.size D0≤maxLen)(hbytes:Maps.size D0 * 16≤140737488355328):
  CallsIn Fence.wide 5 Tryz.prog 136 #[.func (.func 172) #[] #[.pointer (some ⟨w.heap.size,0,none⟩)]] (w.alloc (.cells #[.map (some b)] 89)) fun e w'=>∃(v:Value) (ss:List (List UInt8)),e=.returned v∧ss.Perm (strKeys D0)∧
   w'.ownsRow (w.alloc (.cells #[.map (some b)] 89)).heap.size 9 1 v ss.length ((ss.mergeSort (fun x y=>decide (x≤y))).map encStr)∧(v=.slice none 0 0↔ss=[])∧Below (w.alloc (.cells #[.map (some b)] 89)).heap.size (w.alloc (.cells #[.map (some b)] 89)) w':=by
 have hbl:=hown.lt;have hseq:SeqGives Fence.wide 2 Tryz.prog 172 #[.pointer (some ⟨w.heap.size,0,none⟩)] encStr (fun ss=>ss.Perm (strKeys D0)) (Maps.size D0) (w.alloc (.cells #[.map (some b)] 89)):=
  AnyZ.keys_gives (ρ:=Tryz.keys137_ren) { Tryz.keys137 with } Fence.wide _ trivial rfl (by omega) w.heap.size b nn D0 _ (by simp) (by simp) (by
   obtain ⟨es,clock,hb,Ft,hs,hD⟩:=hown;exact ⟨es,clock,(Below.heap_alloc _ _ b hbl).trans hb,Ft,hs,hD⟩)
 exact AnyZ.sorted_in Tryz.sorted136 Fence.wide 5 trivial trivial trivial trivial rfl (by omega) (Tryz.sorts136 _) (enters_of Tryz.func171 (by kernel_rfl) rfl) 172 #[.pointer (some ⟨w.heap.size,0,none⟩)] trivial (enters_of Tryz.func172 (by kernel_rfl) rfl) _ _ hmax hbytes _ hseq
set_option maxHeartbeats 1000000 in
theorem Tryz.sorted86{H:Type}(b nn:Nat)(D0:DataW H)(R:Value→Option (DataW H×List MemPlace))(w:World)(hown:w.ownsMap Tryz.prog 9 R b nn D0)(hmax:Maps.size D0≤maxLen)(hbytes:Maps.size D0 * 16≤140737488355328):
  Calls Tryz.prog 86 #[.map (some b)] w fun e w'=>∃(v:Value) (ss:List (List UInt8)),e=.returned v∧ss.Perm (strKeys D0)∧
   w'.ownsRow w.heap.size 9 1 v ss.length ((ss.mergeSort (fun x y=>decide (x≤y))).map encStr)∧(v=.slice none 0 0↔ss=[])∧Below w.heap.size w w':=by
 refine (callsIn_wide (n:=6)).1 ?_;have hfK:Fence.wide.fn 137:=trivial;have hfS:Fence.wide.fn 136:=trivial;refine callsIn_of_wp Tryz.func86 rfl trivial ?_ rfl;simp only[Tryz.ntmps86,List.size_toArray,List.length_cons,List.length_nil,Nat.reduceAdd,Nat.reduceSub,Array.replicate_succ,Array.replicate_zero,List.push_toArray,List.append_toArray,List.nil_append,List.cons_append];gi_wp2_with (first
  | (gi_at_call 137;refine (Tryz.maps_Keys_137 _ _).mono ?_;rintro e w' ⟨rfl,rfl⟩)
  | (gi_at_call 136;refine (Tryz.slices_Sorted_keys_136_137 b nn D0 R w hown hmax hbytes).mono ?_;rintro e w' ⟨v,ss,rfl,hS,hrow,hnil,hb⟩))
 go_ret;exact ⟨v,ss,rfl,hS,ownsRow_base_a hrow (by simp),hnil,((Below.refl _ w).alloc (Nat.le_refl _) _).trans (hb.mono (by simp))⟩
end Go.Proofs
namespace Go.Proofs.YtbifpocccfkhhaaGreatDoor
open Go Go.Proofs.Tryz
theorem SR.layAt{E:En}{S:St}{w w':World}(h:SR E S w)(hb:∀b,b<w.heap.size→w'.heap[b]?=w.heap[b]?)(hs:w.heap.size≤w'.heap.size)(ho:(w'.output,w'.os)=(w.output,w.os)){g:Nat}{cells:Array Value}{t:TypeId}(hg:w.heap.size≤g)(hc:w'.heap[g]?=some (.cells cells t (0,0))):
  SR (E.lay g cells) S w'∧Ext S.length E S w (E.lay g cells) S w':=by
 have hno:∀o,E.I g o=none:=fun o=>by
  cases hc:E.I g o with
  | none=>rfl
  | some c=>exact absurd (cell?_lt (h.I _ _ _ hc)) (by omega)
 have hle:E.le (E.lay g cells):=⟨fun b o c h1=>by
  by_cases h2:b=g
  ·subst h2;rw[hno] at h1;cases h1
  ·simp[En.lay,h2];exact h1,fun _ _ _ h=>h⟩
 refine ⟨⟨h.gl.old hle.1 (fun b _ _ _ hc _=>hb b (qcI hc)),?_,?_,h.dom,?_,?_,h.inj⟩,⟨hs,hle.1,fun _ _ _ _ hx=>hx,fun _ _ hx=>hx,fun b hb=>.inl hb,?_,fun b h1 _=>hb b h1,ho⟩⟩
 ·intro b o c h1;by_cases hb':b=g
  ·subst hb';simp only[En.lay,if_true] at h1;unfold World.cell?;rw[hc];simpa using h1
  ·simp only[En.lay,hb',if_false] at h1;have:=h.I b o c h1;rw[cell?_heap (hb _ (cell?_lt this))];exact this
 ·intro l o hl;by_cases hd:o=.dead
  ·subst hd;trivial
  exact (h.obs l o hl).mono hle (fun _ _ hx=>hx) (fun st' x hx=>hb _ (h.lt _ ⟨l,st',x,⟨o,hl,hd⟩,hx,rfl⟩))
 ·intro b o h1;have h2:=h.lt b h1;simp only[En.lay];rw[if_neg (by omega)];exact h.apart b o h1
 ·intro b h1;have:=h.lt b h1;omega
 ·intro b o c h1;by_cases hb':b=g
  ·exact .inr (.inr (by omega))
  ·simp only[En.lay,hb',if_false] at h1;exact .inl h1
def qgd(ks:List ByteArray):List ByteArray:=((ks.map fun k=>k.data.toList).mergeSort fun x y=>decide (x≤y)).map fun l=>⟨l.toArray⟩
theorem qcy(ks:List ByteArray):(qgd ks).length=ks.length:=by unfold qgd;simp
noncomputable abbrev srtR:Value→Option (DataW Unit×List MemPlace):=plainElem prog 4
theorem qp4(m:Nat)(ks:List ByteArray)(bs:List Nat)(ck:Nat)(S:St)(hm:S[m]?=some (.map (ks.map kv) bs ck))(hst:Stam bs ck)(nd:ks.Nodup)(hl:ks.length≤1000000)(hz:∀k,k∈ks→k.size≤maxLen):
  Spec prog 86 [.map m] S (fun r U=>r=.sl false ((qgd ks).map .str)∧U=S):=by
 refine Spec.of_calls func86 ok86 fun E w us hs hv=>?_
 obtain ⟨hlen,hv⟩:=hv
 obtain ⟨x,hu,hx⟩:∃x,us=#[.map (some x.b)]∧E.ρ m 0=some x:=by
  match us,hlen with
  | ⟨[u]⟩,_=>
   have:=hv 0 _ u rfl rfl
   cases this with
   | map h=>exact ⟨_,rfl,h⟩
 subst hu;obtain ⟨x',es,h1,h2,h3,h4,h5⟩:=hs.obs m _ hm;rw[hx] at h1;cases h1;have hes:es.size=ks.length:=by rw[←h3,qrh]
 have ent:∀(i:Nat) (e:MapEntry),es[i]?=some e→∃k,ks[i]?=some k∧e.key=.string k∧e.val=.bool true:=fun i e he=>by
  have hi:i<ks.length:=by rw[←hes];exact (qrc.1 he).1
  obtain ⟨g1,g2⟩:=h5 i (.str ks[i]) (.bool true) e (by simp[kv,hi]) he;refine ⟨ks[i],qrd hi,?_,?_⟩
  ·generalize e.key=kk at g1;cases g1;rfl
  ·generalize e.val=kk at g2;cases g2;rfl
 have hkeys:es.toList.map (·.key)=ks.map Value.string:=by
  apply qr6;intro i;rw[qre,qre,qrQ]
  cases he:es[i]? with
  | none=>
   have:ks.length≤i:=by rw[←hes];exact Array.getElem?_eq_none_iff.1 he
   rw[List.getElem?_eq_none_iff.2 this];rfl
  | some e=>
   obtain ⟨k,hk,hk',_⟩:=ent i e he;rw[hk];simp[hk']
 have hrd:∀(i:Nat) (e:MapEntry),es[i]?=some e→∃k,ks[i]?=some k∧WideElems.rd prog 9 srtR e=some (.string k.data.toList,.lit (.bool true)):=fun i e he=>by
  obtain ⟨k,hk,h6,h7⟩:=ent i e he;refine ⟨k,hk,?_⟩;obtain ⟨key,val,born⟩:=e;simp only at h6 h7;subst h6 h7;exact WideElems.rd_mk (yv:=(.lit (.bool true),[])) (WideMaps.keyOf_string_mk Tryz.underlying9 (hz k (qrb hk))) (plainElem_bool Tryz.underlying4 true)
 have hrg:es.toList.map (WideElems.rg prog 9 srtR)=ks.map fun k=>(.string k.data.toList,.lit (.bool true)):=by
  apply qr6;intro i;rw[qre,qre,qrQ]
  cases he:es[i]? with
  | none=>
   have:ks.length≤i:=by rw[←hes];exact Array.getElem?_eq_none_iff.1 he
   rw[List.getElem?_eq_none_iff.2 this];rfl
  | some e=>
   obtain ⟨k,hk,hk'⟩:=hrd i e he;rw[hk];simp[WideElems.rg_of hk']
 obtain ⟨D0,hD⟩:∃D0:DataW Unit,D0=.map ((es.toList.map (WideElems.rg prog 9 srtR)).foldr DataW.insert []):=⟨_,rfl⟩;have hml:(1000000:Nat)≤maxLen:=by decide
 have hown:w.ownsMap prog 9 srtR x.b es.size D0:=⟨es,ck,h2,⟨by omega,⟨fun e he=>?_,?_,?_⟩,fun e he=>?_⟩,qq8 _,hD⟩;rotate_left
 ·exact hst.1 _ (by rw[h4];exact qrR he)
 ·rw[←h4];exact hst.2
 ·rw[hkeys];exact List.Pairwise.map _ (fun a b hab=>by intro hh;exact hab (by injection hh)) nd
 ·obtain ⟨i,hi⟩:=List.mem_iff_getElem?.1 he;rw[qrQ] at hi;obtain ⟨k,_,hk⟩:=hrd i e hi;exact ⟨_,hk⟩
 have hsz:Maps.size D0=ks.length:=by
  rw[hD,Maps.size_eq,(WideShapes.sorted_perm _).length_eq,hrg,qrh]
 have hsk:(strKeys D0).Perm (ks.map fun k=>k.data.toList):=by
  rw[hD];show (List.map _ _).Perm _;refine ((WideShapes.sorted_perm _).map _).trans ?_;rw[hrg,List.map_map];exact List.Perm.refl _
 refine Calls.mono (Tryz.sorted86 x.b es.size D0 srtR w hown (by omega) (by omega)) ?_;rintro e w' ⟨v,ss,rfl,hp,hrow,hnil,hb⟩;have hso:ss.mergeSort (fun x y=>decide (x≤y))=(ks.map fun k=>k.data.toList).mergeSort (fun x y=>decide (x≤y)):=mergeSort_of_perm (hp.trans hsk)
 have hmap:(qgd ks).map Value.string=(ss.mergeSort (fun x y=>decide (x≤y))).map encStr:=by
  rw[hso];unfold qgd;rw[List.map_map];rfl
 have hn:ss.length=ks.length:=by rw[hp.length_eq,hsk.length_eq,qrh]
 rw[←hmap] at hrow;obtain ⟨_,⟨rfl,h0⟩|⟨g,cap,cur,rfl,hg,hc,hcap,_,hcs,htake⟩⟩:=hrow
 ·obtain ⟨g1,g2⟩:=hs.grown hb.block hb.size (by rw[hb.output,hb.os]);have:qgd ks=[]:=qsr.1 (by rw[qcy];omega);exact ⟨_,_,E,S,rfl,⟨rfl,rfl⟩,by rw[this];exact .slnil _,g1,g2 _,qq8 _⟩
 ·obtain ⟨g1,g2⟩:=hs.layAt hb.block hb.size (by rw[hb.output,hb.os]) hg hc;refine ⟨_,_,E.lay g cur,S,rfl,⟨rfl,rfl⟩,?_,g1,g2,qq8 _⟩;have hlen':ss.length=((qgd ks).map V.str).length:=by rw[qrh,qcy,hn]
  have hget:∀(i:Nat) (y:ByteArray),(qgd ks)[i]?=some y→cur[i]?=some (.string y):=fun i y hy=>by
   have h6:=congrArg (·[i]?) htake;simp only[qre,hy,qrj,List.getElem?_take] at h6;split at h6
   ·rw[qrQ] at h6;exact h6
   ·cases h6
  rw[hlen'];refine .sl (sz:=1) (by rw[←hlen'];exact hcap) (by simp) (fun v hv=>?_) (fun i j hi hj=>?_) (fun i v j c' c h1 h2 h3=>?_)
  ·obtain ⟨k,_,rfl⟩:=qrp.1 hv;rfl
  ·have:j=0:=by omega
   subst this;rw[qrh] at hi;simp[En.lay,hget i _ (qrd hi)]
  ·rw[qre] at h1;obtain ⟨y,hy,rfl⟩:=qq9.1 h1
   have hj:j=0:=by
    have:=(qq2.1 h2).1;simp[V.cells] at this;exact this
   subst hj;simp[V.cells] at h2;subst h2;simp[En.lay,hget i y hy] at h3;subst h3;exact .str y
theorem qjU(h:coP.H)(sc:Scs)(t:ByteArray):(fsto (coP.clH h t sc)).length≤(fsto h).length+1:=by
 show (Prod.fst (coU h t sc)).length≤_;unfold coU fsto;cases sc.at t <;> simp
mutual
theorem Ex.frn(sc:Scs)(tg:Bool):∀(x:Ex) (h:coP.H),(fsto (Ex.hs coP sc tg h x)).length≤(fsto h).length+(Pa.ex x).size
 | .mk k o n m e t a,h=>by
  have ha:=Ex.frnl sc false a h;have hz:=Pa.size_eq (.ex (.mk k o n m e t a));simp only[Pa.own,Pa.kids,Ex.args] at hz;have hc:=qjU (Ex.hsl coP sc false h a) sc t;rw[Ex.hs,qm0];split <;> omega
theorem Ex.frnl(sc:Scs)(tg:Bool):∀(l:List Ex) (h:coP.H),(fsto (Ex.hsl coP sc tg h l)).length≤(fsto h).length+qaN (l.map Pa.ex)
 | [],h=>by simp[Ex.hsl]
 | x::l,h=>by
  have h1:=Ex.frn sc tg x h;have h2:=Ex.frnl sc tg l (Ex.hs coP sc tg h x);rw[Ex.hsl,qrm,sizes_cons];omega
end
theorem El.frnl(sc:Scs):∀(l:List El) (h:coP.H),(fsto (El.hsl coP sc h l)).length≤(fsto h).length+qaN (l.map Pa.el)
 | [],h=>by simp[El.hsl]
 | x::l,h=>by
  have h1:=Ex.frnl sc false x.exps h;have h2:=El.frnl sc l (Ex.hsl coP sc false h x.exps);have hz:=Pa.size_eq (.el x);simp only[Pa.kids] at hz;show (fsto (El.hsl coP sc (Ex.hsl coP sc false h x.exps) l)).length≤_;rw[qrm,sizes_cons];omega
mutual
theorem Sm.frn:∀(s:Sm) (sc:Scs) (n:Nat) (h:coP.H),(fsto (Sm.hs coP sc n h s)).length≤(fsto h).length+(Pa.st s).size
 | .mk l k t g e el d b,sc,n,h=>by
  have hz:=Sm.size_parts' (.mk l k t g e el d b);simp only[Sm.labels,Sm.targets,Sm.exps,Sm.elems,Sm.decls,Sm.body] at hz;have e1:=Ex.frnl sc true g h;rw[Sm.hs];split
  ·have e2:=De.frnl d (qaf (qae d b) n::sc) sc (n+(qaf (qae d b) n).length) (enters coP (Ex.hsl coP sc true h g) (qaf (qae d b) n));have e3:=Sm.frnl b (qaf (qae d b) n::sc) (n+(qaf (qae d b) n).length+De.nbl d) (De.hsl coP (qaf (qae d b) n::sc) sc (n+(qaf (qae d b) n).length) (enters coP (Ex.hsl coP sc true h g) (qaf (qae d b) n)) d);rw[qa3] at e2;omega
  ·split
   ·have e3:=Sm.frnl b (qaf (qap b) n::sc) (n+(qaf (qap b) n).length) (enters coP (Ex.hsl coP sc true h g) (qaf (qap b) n));rw[qa3] at e3;omega
   ·have e2:=Ex.frnl sc false e (Ex.hsl coP sc true h g);have e3:=El.frnl sc el (Ex.hsl coP sc false (Ex.hsl coP sc true h g) e);have e4:=Sm.frn1 b sc n (El.hsl coP sc (Ex.hsl coP sc false (Ex.hsl coP sc true h g) e) el);have hc:=qjU (Sm.hs1 coP sc n (El.hsl coP sc (Ex.hsl coP sc false (Ex.hsl coP sc true h g) e) el) b) sc t;rw[qmY];split <;> omega
theorem De.frn:∀(s:De) (own sc:Scs) (n:Nat) (h:coP.H),(fsto (De.hs coP own sc n h s)).length≤(fsto h).length+(Pa.de s).size
 | .mk k o t ns e fo b,own,sc,n,h=>by
  have hz:=De.size_parts' (.mk k o t ns e fo b);simp only[De.names,De.formals,De.exps,De.body] at hz;rw[De.hs];split
  ·have e1:=Ex.frnl own false e h;have e2:=Sm.frn1 b (qaf (fo.map Fo.name) n::own) (n+(qaf (fo.map Fo.name) n).length) (enters coP (Ex.hsl coP own false h e) (qaf (fo.map Fo.name) n));rw[qa3] at e2;omega
  ·have e1:=Ex.frnl (if k=2 then sc else own) false e h;omega
theorem De.frnl:∀(l:List De) (own sc:Scs) (n:Nat) (h:coP.H),(fsto (De.hsl coP own sc n h l)).length≤(fsto h).length+qaN (l.map Pa.de)
 | [],_,_,_,h=>by simp[De.hsl]
 | x::l,own,sc,n,h=>by
  have h1:=De.frn x own sc n h;have h2:=De.frnl l own sc (n+De.nb x) (De.hs coP own sc n h x);rw[De.hsl,qrm,sizes_cons];omega
theorem Sm.frnl:∀(l:List Sm) (sc:Scs) (n:Nat) (h:coP.H),(fsto (Sm.hsl coP sc n h l)).length≤(fsto h).length+qaN (l.map Pa.st)
 | [],_,_,h=>by simp[Sm.hsl]
 | x::l,sc,n,h=>by
  have h1:=Sm.frn x sc n h;have h2:=Sm.frnl l sc (n+Sm.nb x) (Sm.hs coP sc n h x);rw[Sm.hsl,qrm,sizes_cons];omega
theorem Sm.frn1:∀(l:List Sm) (sc:Scs) (n:Nat) (h:coP.H),(fsto (Sm.hs1 coP sc n h l)).length≤(fsto h).length+qaN (l.map Pa.st)
 | [],_,_,h=>by simp[Sm.hs1]
 | x::l,sc,n,h=>by
  have h1:=Sm.frn x (qaf x.labels n::sc) (n+(qaf x.labels n).length) (enters coP h (qaf x.labels n));have h2:=Sm.frn1 l sc (n+(qaf x.labels n).length+Sm.nb x) (Sm.hs coP (qaf x.labels n::sc) (n+(qaf x.labels n).length) (enters coP h (qaf x.labels n)) x);rw[qa3] at h1;rw[Sm.hs1,qrm,sizes_cons];omega
end
theorem Sm.frees_len(s:Sm):(fsto (s.wholeH coP coZ)).length≤(Pa.st s).size:=by
 have:=Sm.frn s [qaf s.labels 0] (qaf s.labels 0).length (enters coP coZ (qaf s.labels 0));rw[qa3] at this;have h0:(fsto coZ).length=0:=rfl;show (fsto (Sm.hs coP [qaf s.labels 0] (qaf s.labels 0).length (enters coP coZ (qaf s.labels 0)) s)).length≤_;omega
theorem qfo:∀{l ks:List ByteArray},ks.Nodup→(l.foldl insK ks).Nodup
 | [],ks,h=>h
 | s::l,ks,h=>by
  refine qfo (l:=l) ?_;unfold insK;split
  ·exact h
  ·rename_i hs;exact List.nodup_append.2 ⟨h,by simp,fun a ha b hb=>by simp at hb;subst hb;rintro rfl;exact hs (qdp.2 ha)⟩
theorem qgi:∀{l ks:List ByteArray},(l.foldl insK ks).length≤ks.length+l.length
 | [],ks=>by simp
 | s::l,ks=>by
  have:=qgi (l:=l) (ks:=insK ks s);have h2:(insK ks s).length≤ks.length+1:=by unfold insK;split <;> simp
  rw[List.foldl_cons,qrz];omega
def Sm.frees(s:Sm):List ByteArray:=qgd ((fsto (s.wholeH coP coZ)).foldl insK [])
theorem qm5(s:Sm)(hs:s.ok)(hsz:(Pa.st s).size≤4000)(hn:Sm.nb1 [s]≤100000)(S:St):
  Spec prog 29 [s.v] S (fun r U=>r=.tup [.sl (decide ((Pa.st s).err qac≠0)) ((if (Pa.st s).err qac=0 then s.frees else []).map .str),.int .i64 ((Pa.st s).err qac)]∧Kp (fun _=>False) S U):=by
 refine Spec.intro func29 ok29 (by simp[c29]) ?_;obtain ⟨S1,hS1⟩:∃S1:St,S1=S++[.arr [s.v] 8 1]:=⟨_,rfl⟩;have b0:S1[S.length]?=some (.arr [s.v] 8 1):=by rw[hS1];simp
 have kS:Kp (fun _=>False) S S1:=by rw[hS1];exact (Kp.refl _ _).push _
 simp[c29,boxS];rw[←hS1];simp[ldS,b0];refine qad (qmV s hs S1) ?_;by_cases he:(Pa.st s).err qac=0
 ·simp[he,ldS,b0];refine qan (qpV s hs hsz hn S1) ?_;rintro r U ⟨m,c4,c5,c6,v,ps,F,D,rfl,k,kU,_⟩;obtain ⟨bs,ck,hst,hm⟩:=k.fm;have hv:=(Pa.valid_iff.1 (qdy he).2);simp;refine qan (qp4 m _ bs ck U hm hst (qfo List.nodup_nil) ?_ ?_) ?_
  ·have h1:=qgi (l:=fsto (s.wholeH coP coZ)) (ks:=[]);have h2:=s.frees_len;simp only[qsk] at h1;exact qrJ h1 (by omega)
  ·intro x hx;rw[qid] at hx;have hx:x∈fsto (s.wholeH coP coZ):=hx.elim (fun h=>by simp at h) id;rw[Sm.free_occ (f:=numF) (nm:=qac) (fun k=>qfO k) s (qdy he).2] at hx;have:=qhx (qr4.1 hx).2;exact qrJ this (by decide)
  ·rintro r U2 ⟨rfl,rfl⟩;simp;exact qah rfl ⟨rfl,kS.trans kU⟩
 ·simp[he];exact qah rfl ⟨rfl,kS⟩
theorem qm4(b b':Bool)(l:List ByteArray)(hl:l.length≤1000000)(S:St):Fn prog 30 [.sl b (l.map .str),.sl b' (l.map .str)] S (.bool true):=by
 refine Spec.intro func30 ok30 (by simp[c30]) ?_;simp[c30];refine qaY (fun e U=>U=S) ?_ ?_
 ·refine qax (fun k e S'=>∃i:Nat,k=l.length - i∧i≤l.length∧S'=S∧e=[(5,.int .i64 i),(0,.sl b (l.map .str)),(1,.sl b' (l.map .str))]) l.length _ ?_ ⟨0,by simp,by omega,rfl,rfl⟩ ?_
  ·exact Env.so (by simp)
  rintro k e S' ⟨i,rfl,hi,rfl,rfl⟩;by_cases h:i<l.length
  ·simp[h,dend,qcs,qc5,qe8];rw[qa6 (n:=(i:Int)+1)];refine ⟨_,?_,_,?_,i+1,rfl,by omega,rfl⟩
   ·omega
   ·exact Env.so (by simp)
  ·simp[h]
 ·rintro e U rfl;simp;exact qah rfl ⟨rfl,rfl⟩
theorem qfz(s:Sm)(h:(Pa.st s).size<150):s.frees.length≤1000000:=by
 unfold Sm.frees;rw[qcy];have h1:=qgi (l:=fsto (s.wholeH coP coZ)) (ks:=[]);have h2:=s.frees_len;simp only[qsk] at h1;omega
theorem qlX{a b:Sm}(va:(Pa.st a).valid qac=true)(vb:(Pa.st b).valid qac=true)(h:a.wholeR (nuP numF)=b.wholeR (nuP numF)):a.frees=b.frees:=by
 rw[qew va,qew vb] at h;unfold Sm.frees;rw[Sm.free_occ (f:=numF) qfO a va,Sm.free_occ (f:=numF) qfO b vb,h]
open Classical in
theorem qqT(a b c:Sm)(oa:a.ok)(ob:b.ok)(oc:c.ok):Fn prog 6 [a.v,b.v,c.v] [] (.bool true):=by
 refine Spec.intro func6 ok6 (by simp[c6]) ?_;obtain ⟨S1,hS1⟩:∃S1:St,S1=[.arr [a.v] 8 1,.arr [b.v] 8 1,.arr [c.v] 8 1]:=⟨_,rfl⟩;have b0:S1[0]?=some (.arr [a.v] 8 1):=by rw[hS1];rfl
 have b1:S1[1]?=some (.arr [b.v] 8 1):=by rw[hS1];rfl
 have b2:S1[2]?=some (.arr [c.v] 8 1):=by rw[hS1];rfl
 have d0:ldS S1 (.ptr 0 0 0 1) (some 8)=some a.v:=by simp[ldS,b0]
 have d1:ldS S1 (.ptr 1 0 0 1) (some 8)=some b.v:=by simp[ldS,b1]
 have d2:ldS S1 (.ptr 2 0 0 1) (some 8)=some c.v:=by simp[ldS,b2]
 simp[c6,boxS];rw[←hS1];simp[d0];refine qad (qky a oa S1) ?_
 cases la:a.light with
 | false=>
  simp;refine qad (qev S1) ?_;simp;exact qaa rfl rfl rfl
 | true=>
 simp[d1];refine qad (qky b ob S1) ?_
 cases lb:b.light with
 | false=>
  simp;refine qad (qev S1) ?_;simp;exact qaa rfl rfl rfl
 | true=>
 simp[d2];refine qad (qky c oc S1) ?_
 cases lc:c.light with
 | false=>
  simp;refine qad (qev S1) ?_;simp;exact qaa rfl rfl rfl
 | true=>
 have sa:=qcV la;have sb:=qcV lb;have sc:=qcV lc;have na:=qjN la;have nb:=qjN lb;have nc:=qjN lc
 have hn:∀s:Sm,s.ok→Sm.nb1 [s]<150→(Pa.st s).err qac=0→(s.wholeR (nuP numF)).ok:=fun s os ns h=>by
  rw[qew (qdy h).2];exact Sm.whole_ok (f:=numF) (N:=1000) (fun k hk=>qkd k hk) s (by omega) os
 have al:∀(x y:Sm) (U:St),x.ok→y.ok→(Pa.st x).size<150→(Pa.st y).size<150→Sm.nb1 [x]<150→Sm.nb1 [y]<150→Spec prog 24 [x.v,y.v] U (fun r U'=>r=.tup [.bool (decide ((Pa.st x).err qac=0∧(Pa.st y).err qac=0∧x.wholeR (nuP numF)=y.wholeR (nuP numF))),.int .i64 (if (Pa.st x).err qac=0 then (Pa.st y).err qac else (Pa.st x).err qac)]∧Kp (fun _=>False) U U'):=
  fun x y U ox oy zx zy mx my=>qqL x y ox oy (by omega) (by omega) (by omega) (by omega) (hn x ox mx) U
 have ld:∀{U:St},Kp (fun _=>False) S1 U→ldS U (.ptr 0 0 0 1) (some 8)=some a.v∧ldS U (.ptr 1 0 0 1) (some 8)=some b.v∧ldS U (.ptr 2 0 0 1) (some 8)=some c.v:=fun k=>by
  have c0:=k.at b0 id;have c1:=k.at b1 id;have c2:=k.at b2 id;simp[ldS,c0,c1,c2]
 simp[d0,d1];refine qan (al a b S1 oa ob sa sb na nb) ?_;rintro r U1 ⟨rfl,k1⟩;obtain ⟨p0,p1,p2⟩:=ld k1;simp[p0,p1];refine qan (al b a U1 ob oa sb sa nb na) ?_;rintro r U2 ⟨rfl,k2⟩;have k2:=k1.trans k2;obtain ⟨p0,p1,p2⟩:=ld k2;simp[p1,p2];refine qan (al b c U2 ob oc sb sc nb nc) ?_;rintro r U3 ⟨rfl,k3⟩;have k3:=k2.trans k3;obtain ⟨p0,p1,p2⟩:=ld k3;simp[p0,p2];refine qan (al a c U3 oa oc sa sc na nc) ?_;rintro r U4 ⟨rfl,k4⟩;have k4:=k3.trans k4;obtain ⟨p0,p1,p2⟩:=ld k4;simp[p0];refine qan (al a a U4 oa oa sa sa na na) ?_;rintro r U5 ⟨rfl,k5⟩;have k5:=k4.trans k5;obtain ⟨p0,p1,p2⟩:=ld k5;by_cases ea:(Pa.st a).err qac=0
 case neg=>
  simp[ea];refine qad (qev U5) ?_;simp;exact qaa rfl rfl rfl
 by_cases eb:(Pa.st b).err qac=0
 case neg=>
  simp[ea,eb];refine qad (qev U5) ?_;simp;exact qaa rfl rfl rfl
 by_cases ec:(Pa.st c).err qac=0
 case neg=>
  simp[ea,eb,ec];refine qad (qev U5) ?_;simp;exact qaa rfl rfl rfl
 simp[ea,eb,ec,p0];refine qan (qm5 a oa (by omega) (by omega) U5) ?_;rintro r U6 ⟨rfl,k6⟩;have k6:=k5.trans k6;obtain ⟨p0,p1,p2⟩:=ld k6;simp[ea,eb,ec,p1];refine qan (qm5 b ob (by omega) (by omega) U6) ?_;rintro r U7 ⟨rfl,k7⟩;simp[ea,eb,ec];refine qad (qev U7) ?_;by_cases hab:a.wholeR (nuP numF)=b.wholeR (nuP numF)
 ·have hba:b.wholeR (nuP numF)=a.wholeR (nuP numF):=hab.symm;have hf:=qlX (qdy ea).2 (qdy eb).2 hab;by_cases hbc:b.wholeR (nuP numF)=c.wholeR (nuP numF)
  ·simp[hab,hbc,hf,eqOk,eqV];refine qad (qm4 _ _ b.frees (qfz b sb) U7) ?_;simp;exact qaa rfl rfl rfl
  ·simp[hab,hbc,hf,eqOk,eqV];refine qad (qm4 _ _ b.frees (qfz b sb) U7) ?_;simp;exact qaa rfl rfl rfl
 ·have hba:¬ b.wholeR (nuP numF)=a.wholeR (nuP numF):=fun h=>hab h.symm
  simp[hab,hba,eqOk,eqV];exact qaa rfl rfl rfl
end Go.Proofs.YtbifpocccfkhhaaGreatDoor
namespace Go.Proofs.YtbifpocccfkhhaaGreatDoor.copySame
open Go Go.ChangeShapes Go.WideShapes Go.ChangeAt Go.RowKit
set_option maxRecDepth 100000
theorem own:ownKnob Tryz.prog.godebug=none:=by kernel_rfl
theorem contract(H:Type)(enc:TypeId×Value→H)(W:World)(base:Nat)(args:Array Value)(ds gs:List (DataW H))(before:List MemPlace)
  (hval:∀(j:Nat) t v,Tryz.f6.params[j]?=some t→args[j]?=some v→Value.okWide Tryz.prog W .any base t v)
  (hW:DataW.Whole enc Tryz.prog Tryz.f6.params.toList Rows.copySameSpec.vars false W args.toList ds gs before)
  (hwt:(DataW.weightsEach Tryz.prog (Tryz.f6.params.toList++(OpenSpec.ofChange Rows.copySameSpec).bare.plain.varTypes Tryz.prog) (ds++gs)).all (·≤reachBytes)=true) (hL:laidMetH Tryz.prog Rows.copySameRow.laid W):
  Calls Tryz.prog 6 args W fun e W'=>∃v,e=.returned v∧Rows.copySameSpec.post enc Tryz.prog Tryz.f6 false true false false W args v W':=by
 have hW':=hW;obtain ⟨p,q,hA0,hV,rfl,hfz,hnd⟩:=hW;have hA:DataW.TrodAll enc Tryz.prog W 0 (fun _=>true) true Tryz.f6.params.toList args.toList ds p:=hA0;rw[Tryz.params6] at hA hval hwt;obtain ⟨v0,vs0,d0,ds0,p0,q0,hv0,hd0,h0,hA0⟩:=trodAll_cons hA;obtain ⟨v1,vs1,d1,ds1,p1,q1,hv1,hd1,h1,hA1⟩:=trodAll_cons hA0;obtain ⟨v2,vs2,d2,ds2,p2,q2,hv2,hd2,h2,hA2⟩:=trodAll_cons hA1;obtain ⟨hve,hde⟩:=trodAll_nil hA2;have hds:ds=[d0,d1,d2]:=by rw[hd0,hd1,hd2,hde]
 have hargs:args=#[v0,v1,v2]:=by
  apply qsE.1;rw[hv0,hv1,hv2,hve]
 subst hds hargs;obtain ⟨rfl,rfl⟩:=trodVars_none hV;rw[qsm] at hwt;obtain ⟨a0,o0,r0⟩:=stmt_in (hval 0 28 v0 rfl rfl) h0 (fitw_of hwt (i:=0) rfl rfl);obtain ⟨a1,o1,r1⟩:=stmt_in (hval 1 28 v1 rfl rfl) h1 (fitw_of hwt (i:=1) rfl rfl);obtain ⟨a2,o2,r2⟩:=stmt_in (hval 2 28 v2 rfl rfl) h2 (fitw_of hwt (i:=2) rfl rfl);refine law_of (qqT a0 a1 a2 o0 o1 o2) (SR.start hL) ⟨rfl,fun i v u hv hu=>?_⟩ (by kernel_rfl) rfl rfl hW' rfl
 match i,hv,hu with
 | 0,hv,hu=>cases hv;cases hu;exact r0
 | 1,hv,hu=>cases hv;cases hu;exact r1
 | 2,hv,hu=>cases hv;cases hu;exact r2
noncomputable def laidWorld(os:Os):World:=
 let N:=(World.settled Tryz.prog os).heap.size
 let w0:=World.holding Tryz.prog os ⟨#[.cells (#[9,13,1,32,133,101,160,5760,5600,8192,8202,1,8232,8233,1,8239,8287,48,12288,12288,1].map fun (z:Nat)=>Value.int .u16 (z:Int)) 279,.cells #[.slice (some ⟨N,0,none⟩) 7 7,.slice none 0 0,.int .i64 2] 276],#[],[]⟩
 let put (h:Array Obj) (g:Nat) (cs:Array Value):Array Obj:=h.modify g fun
  | .cells _ t frozen=>.cells cs t frozen
  | o=>o
 let h1:=put w0.heap 0 (Lib.asciiSpaceTab.map fun z=>Value.int .u8 z).toArray
 let h2:=put h1 1 #[.pointer (some ⟨N+1,0,none⟩)]
 let h3:=put h2 2 (Lib.pow10Tab.map fun z=>Value.int .u64 z).toArray
 let h4:=put h3 3 (#[0,1,28,2,29,14,24,3,30,22,20,15,25,17,4,8,31,27,13,23,21,19,16,7,26,12,18,6,11,5,10,9].map fun (z:Nat)=>Value.int .u8 (z:Int))
 let h5:=put h4 4 (#[0,1,56,2,57,49,28,3,61,58,42,50,38,29,17,4,62,47,59,36,45,43,51,22,53,39,33,30,24,18,12,5,63,55,48,27,60,41,37,16,46,35,44,21,52,32,23,11,54,26,40,15,34,20,31,10,25,14,19,9,13,8,7,6].map fun (z:Nat)=>Value.int .u8 (z:Int))
 { w0 with heap:=h5 }
def wArgs:Array Value:=#[.agg #[.slice none 0 0,.int .i64 0,.string ⟨#[]⟩,.slice none 0 0,.slice none 0 0,.slice none 0 0,.slice none 0 0,.slice none 0 0],.agg #[.slice none 0 0,.int .i64 0,.string ⟨#[]⟩,.slice none 0 0,.slice none 0 0,.slice none 0 0,.slice none 0 0,.slice none 0 0],.agg #[.slice none 0 0,.int .i64 0,.string ⟨#[]⟩,.slice none 0 0,.slice none 0 0,.slice none 0 0,.slice none 0 0,.slice none 0 0]]
theorem laid_met(os:Os):laidMet Tryz.prog Rows.copySameRow.laid ((laidWorld os).forCall (fun _ _=>0) ⟨#[],wArgs,[]⟩).memory:=
 laidMet_of_run' 10 (by kernel_rfl) (by kernel_rfl)
theorem reads(os:Os){H:Type}(enc:TypeId×Value→H):∃places,DataW.whole enc Tryz.prog ((laidWorld os).forCall (fun _ _=>0) ⟨#[],wArgs,[]⟩).memory Tryz.f6.params.toList Rows.copySameSpec.vars false wArgs.toList 8=some ([.agg [.nil,.lit (.int .i64 0),.lit (.string []),.nil,.nil,.nil,.nil,.nil],.agg [.nil,.lit (.int .i64 0),.lit (.string []),.nil,.nil,.nil,.nil,.nil],.agg [.nil,.lit (.int .i64 0),.lit (.string []),.nil,.nil,.nil,.nil,.nil]],[],places):=
 ⟨[],by kernel_rfl⟩
theorem lifted(os:Os)(started:os.Started)(H:Type)(enc:TypeId×Value→H)(F:Stop.Interp):
  ReturnsInHanded {} Tryz.checked os 6 .any ((OpenSpec.ofChange Rows.copySameSpec).preRow enc Tryz.prog Tryz.f6 Rows.copySameRow.domain false Rows.copySameRow.laid) (((OpenSpec.ofChange Rows.copySameSpec).at F).post enc Tryz.prog Tryz.f6 false true false false):=by
 obtain ⟨places,hx⟩:=reads os enc;refine returnsInHanded_of_row (C:=Tryz.checked) (s:=OpenSpec.ofChange Rows.copySameSpec) own started (by kernel_rfl) Tryz.func6
  (witness_row_atRef (enc:=enc) (C:=Tryz.checked) false (laidWorld os) wArgs rfl (by kernel_rfl) (by kernel_rfl) (by kernel_rfl)
   (OpenSpec.preRow_of_cond 8 hx (by kernel_rfl) (fun k hk=>by cases hk) (by kernel_rfl) (laid_met os))) ?_
 intro W base args ds gs before hval hW _ _ hwt hL _ _;exact contract H enc W base args ds gs before hval hW hwt hL
theorem andT{a b:Bool}(ha:a=true)(hb:b=true):(a && b)=true:=by rw[ha,hb];rfl
theorem fact1:Rows.copySameRow.wf (OpenSpec.ofChange (OpenSpec.ofChange Rows.copySameSpec).bare)=true:=by kernel_rfl
theorem fact2:laidOutB Tryz.prog=true:=by kernel_rfl
theorem fact3:mapsRowed Tryz.prog=true:=by kernel_rfl
theorem fact4:Tryz.f6.params.all (Tryz.prog.readableRec ·)=true:=by kernel_rfl
theorem fact5:namedTie Tryz.prog Rows.copySameRow.named (OpenSpec.ofChange Rows.copySameSpec).bare.vars=true:=by kernel_rfl
theorem fact6:(Rows.copySameRow.stops==[])=true:=by kernel_rfl
theorem fact7:(Tryz.prog.stops==[])=true:=by kernel_rfl
theorem fact8:(Rows.copySameRow.knobs==[])=true:=by kernel_rfl
theorem fact9:(Tryz.prog.stopKnobs==[])=true:=by kernel_rfl
theorem fact10:(Rows.copySameRow.inPlace==Tryz.prog.inPlace 6)=true:=by kernel_rfl
theorem fact11:(Rows.copySameRow.unfollowed==Tryz.prog.unfollowed 6)=true:=by kernel_rfl
theorem fact12:(Rows.copySameRow.recurses==Tryz.prog.recurses 6)=true:=by kernel_rfl
theorem fact13:(Rows.copySameRow.named==Tryz.prog.varsNamed 6)=true:=by kernel_rfl
theorem fact14:(Rows.copySameRow.maps==(Tryz.f6.params.toList++(OpenSpec.ofChange Rows.copySameSpec).bare.plain.varTypes Tryz.prog).any (Tryz.prog.mapsRec ·))=true:=by kernel_rfl
theorem fact15:(Rows.copySameRow.ifaces==(Tryz.f6.params.toList++(OpenSpec.ofChange Rows.copySameSpec).bare.plain.varTypes Tryz.prog).any (Tryz.prog.ifacesRec ·))=true:=by kernel_rfl
theorem fact16:(Rows.copySameRow.mapsOut==Tryz.prog.mapsAmong Tryz.f6.resultTypes.toList)=true:=by kernel_rfl
theorem fact17:(Rows.copySameRow.loops==(Tryz.f6.params.toList++(OpenSpec.ofChange Rows.copySameSpec).bare.plain.varTypes Tryz.prog).any (Tryz.prog.loopsFrom ·))=true:=by kernel_rfl
theorem fact18:(Rows.copySameRow.wideKeys==((Tryz.f6.params.toList++(OpenSpec.ofChange Rows.copySameSpec).bare.plain.varTypes Tryz.prog)++Tryz.f6.resultTypes.toList).any (Tryz.prog.wideKeysFrom ·))=true:=by kernel_rfl
theorem fact19:(OpenSpec.ofChange Rows.copySameSpec).bare.vars.all (Tryz.prog.varReadable ·)=true:=by kernel_rfl
theorem fact20:Tryz.f6.resultTypes.all (fun t=>Tryz.prog.readableRec t && decide (t<Tryz.prog.types.size))=true:=by kernel_rfl
theorem fact21:(Rows.copySameRow.ifacesOut==Tryz.f6.resultTypes.toList.any (Tryz.prog.ifacesRec ·))=true:=by kernel_rfl
theorem fact22:(Rows.copySameRow.loopsOut==Tryz.f6.resultTypes.toList.any (Tryz.prog.loopsFrom ·))=true:=by kernel_rfl
theorem fact23:(Rows.copySameRow.plainKeys==Tryz.prog.plainKeys)=true:=by kernel_rfl
theorem fact24:Rows.copySameRow.shortTexts.isNone=true:=by kernel_rfl
theorem fact25:Tryz.prog.stopsHeard=true:=by kernel_rfl
theorem fact26:Tryz.prog.mayEnter=true:=by kernel_rfl
theorem fact27:(Rows.copySameRow.lifted==Tryz.prog.liftsFinal)=true:=by kernel_rfl
theorem fact28:(Tryz.prog.make==some Rows.copySameRow.make)=true:=by kernel_rfl
theorem fact29:(Rows.copySameRow.kinds==(if Rows.copySameRow.domain.isEmpty then [] else Tryz.f6.params.toList.map fun t=>match Tryz.prog.underlying t with|some (.int k)=>some k|_=>none))=true:=by kernel_rfl
theorem fact30:(Rows.copySameRow.pinned==Rows.copySameRow.pinnedBy)=true:=by kernel_rfl
theorem fact31:(Rows.copySameRow.veiled==((Tryz.f6.params.toList++(OpenSpec.ofChange Rows.copySameSpec).bare.plain.varTypes Tryz.prog)++Tryz.f6.resultTypes.toList).any (Tryz.prog.veiledRec ·))=true:=by kernel_rfl
theorem fact32:Rows.copySameRow.veiledFits Tryz.prog Tryz.f6.params.toList ((Tryz.f6.params.toList++(OpenSpec.ofChange Rows.copySameSpec).bare.plain.varTypes Tryz.prog)++Tryz.f6.resultTypes.toList)=true:=by kernel_rfl
theorem facts:joinedFacts Tryz.pinned.checked.prog 6 Tryz.f6 (OpenSpec.ofChange Rows.copySameSpec).bare Rows.copySameRow=true:=(andT (andT (andT (andT (andT (andT (andT (andT (andT (andT (andT (andT (andT (andT (andT (andT (andT (andT (andT (andT (andT (andT (andT (andT (andT (andT (andT (andT (andT (andT (andT fact1 fact2) fact3) fact4) fact5) fact6) fact7) fact8) fact9) fact10) fact11) fact12) fact13) fact14) fact15) fact16) fact17) fact18) fact19) fact20) fact21) fact22) fact23) fact24) fact25) fact26) fact27) fact28) fact29) fact30) fact31) fact32)
theorem name6:Tryz.pinned.checked.prog.funcNamed Rows.copySameRow.func=some 6:=by kernel_rfl
theorem inst6:Tryz.f6.isInstance Tryz.pinned.checked.prog Rows.copySameRow.origin Rows.copySameRow.targs:=of_decide_eq_true (by kernel_rfl)
theorem wrap6:Tryz.f6.isWrapper Tryz.pinned.checked.prog Rows.copySameRow.wrapper Rows.copySameRow.mainSum:=by unfold Func.isWrapper;first|(rw[if_pos (by decide+kernel)];kernel_rfl)|(rw[if_neg (by decide+kernel)];exact ⟨rfl,rfl⟩)
theorem said:Rows.CopySameSaid:=
 OpenClaim.holds_of_cond 6 Tryz.f6 rfl rfl rfl rfl rfl rfl rfl ⟨rfl,rfl,rfl,rfl,rfl⟩ rfl rfl rfl rfl rfl name6 Tryz.func6 facts inst6 wrap6
  (fun os started H enc _ F=>by rw[OpenClaim.pre_eq_preRow];exact lifted os started H enc F)
theorem looksT:false=Tryz.pinned.checked.prog.looks []:=by kernel_rfl
theorem stand28:Tryz.prog.wantsStandIn 28=false:=by kernel_rfl
theorem named6 : Tryz.prog.funcNamed "manorboy/manorboylaw09.CopySame" = some 6 := by kernel_rfl
theorem plain (f : FuncId) (fn : Func) (hf : Tryz.pinned.checked.prog.funcNamed "manorboy/manorboylaw09.CopySame" = some f) (hfn : Tryz.pinned.checked.prog.funcs[f]? = some fn) :
  false=Tryz.pinned.checked.prog.looks []∧∀(j:Nat) t,fn.params[j]?=some t→Tryz.pinned.checked.prog.wantsStandIn t=false:=by
 obtain rfl:f=6:=Option.some.inj (named6.symm.trans hf) |>.symm;obtain rfl:fn=Tryz.f6:=(Option.some.inj (Tryz.func6.symm.trans hfn)).symm;refine ⟨looksT,fun j t ht=>?_⟩;rw[Tryz.params6] at ht;have:t=28:=by simpa using Array.mem_of_getElem? ht
 subst this;exact stand28
theorem wfText:Rows.copySameRow.wfByText (OpenSpec.ofChange Rows.copySameSpec)=true:=by kernel_rfl
theorem mainT:Tryz.pinned.checked.prog.mainIs=some (Rows.copySameCard.stood.harness.1,Rows.copySameCard.stood.harness.2.toList):=by kernel_rfl
theorem goesT:false=Rows.copySameRow.goesBy Tryz.pinned.checked.prog:=by kernel_rfl
theorem card:Rows.CopySameCardSaid:=
 Claim7.holds_tied_plain_at .later [] _ _ _ _ said (fun _ h=>by cases h) wfText (fun _ h=>by cases h) copySame_row_tie rfl ⟨rfl,rfl⟩ mainT rfl plain goesT
end Go.Proofs.YtbifpocccfkhhaaGreatDoor.copySame
namespace Go.Proofs.YtbifpocccfkhhaaGreatDoor
theorem copySame_holds:Rows.CopySameCardSaid:=copySame.card
end Go.Proofs.YtbifpocccfkhhaaGreatDoor
end
