/- A part. -/
import Derived.Test.YtbifpocccfkhhaaGreatDoorWd
import Derived.KernelRfl
set_option linter.all false
noncomputable section
namespace Go.Proofs.YtbifpocccfkhhaaGreatDoor
open Go Go.Proofs.Tryz
set_option maxHeartbeats 0
set_option maxRecDepth 100000
def tS:(∀h,(prog.types[3]'h).size=1)/\(∀h,(prog.types[4]'h).size=1)/\(∀h,(prog.types[5]'h).size=1)/\(∀h,(prog.types[9]'h).size=1)/\(∀h,(prog.types[22]'h).size=1)/\(∀h,(prog.types[23]'h).size=1)/\(∀h,(prog.types[24]'h).size=1)/\(∀h,(prog.types[25]'h).size=1)/\(∀h,(prog.types[26]'h).size=1)/\(∀h,(prog.types[28]'h).size=8)/\(∀h,(prog.types[40]'h).size=1)/\(∀h,(prog.types[42]'h).size=7)/\(∀h,(prog.types[52]'h).size=2)/\(∀h,(prog.types[54]'h).size=7)/\(∀h,(prog.types[87]'h).size=4)/\(∀h,(prog.types[89]'h).size=1)/\(∀h,(prog.types[90]'h).size=1)/\(∀h,(prog.types[93]'h).size=1)/\(∀h,(prog.types[94]'h).size=1)/\(∀h,(prog.types[96]'h).size=1)/\(∀h,(prog.types[98]'h).size=1)/\(∀h,(prog.types[99]'h).size=1)/\(∀h,(prog.types[135]'h).size=2)/\(∀h,(prog.types[138]'h).size=25)/\(∀h,(prog.types[142]'h).size=1)/\(∀h,(prog.types[144]'h).size=1)/\(∀h,(prog.types[145]'h).size=1)/\(∀h,(prog.types[179]'h).size=1)/\(∀h,(prog.types[195]'h).size=2)/\(∀h,(prog.types[196]'h).size=1)/\(∀h,(prog.types[224]'h).size=2)/\(∀h,(prog.types[9]'h).bytes=16)/\(∀h,(prog.types[28]'h).bytes=168)/\(∀h,(prog.types[42]'h).bytes=120)/\(∀h,(prog.types[54]'h).bytes=80)/\(∀h,(prog.types[87]'h).bytes=40)/\(∀h,(prog.types[94]'h).bytes=8)/\(∀h,(prog.types[135]'h).bytes=32)/\(∀h,(prog.types[138]'h).bytes=408)/\(∀h,(prog.types[195]'h).bytes=24):=by
 repeat' apply And.intro
 all_goals (intro h;kernel_rfl)
theorem qmq(l:List UInt8):qx (.string ⟨List.toArray l⟩)=.str ⟨⟨l⟩⟩:=rfl
def aI{k:FuncId}{f:Func}{c:F'}(g:prog.funcs[k]?=some f)(h:∀Q:Option F'->Prop,Q (some c)->Q (lD prog f):=by(intro Q q;(with_unfolding_all conv=>arg 1;whnf);simp only[List.reverse,List.reverseAux,qmq,List.getElem_toArray,List.getElem_cons_zero,List.getElem_cons_succ,AL,eE,kj,Nat.reduceSub,tS,qx,DY,Nat.reduceAdd,iQ,List.map,shift,cP,eK];exact q)):CF prog k f:=⟨c,g,h (·=some c) rfl⟩
@[simp] theorem eZ{k:FuncId}{f:Func}{c:F'}(g:prog.funcs[k]?=some f)(h:∀Q:Option F'->Prop,Q (some c)->Q (lD prog f)):(aI g h).c=c:=rfl
abbrev xr(f:Func)(c:F'):Prop:=lD prog f=some c
def zz{f:Func}{c:F'}(h:lD prog f=some c:=by kernel_rfl):xr f c:=h
noncomputable def cmp(f:Func):F':=(lD prog f).getD ⟨0,[],.skip⟩
noncomputable def PQ:=aI func23
noncomputable def P3:=aI func32
noncomputable def Qd:=aI func56
noncomputable def Es:=aI func57
noncomputable def Qe:=aI func58
noncomputable def Qf:=aI func60
noncomputable def Qg:=aI func62
noncomputable def Qm:=aI func68
noncomputable def Qn:=aI func74
noncomputable def Qo:=aI func77
noncomputable def Qp:=aI func79
noncomputable def Qq:=aI func80
noncomputable def Qr:=aI func81
noncomputable def Qs:=aI func82
noncomputable def Qw:=aI func87
noncomputable def Qx:=aI func90
noncomputable def QB:=aI func95
noncomputable def QC:=aI func96
noncomputable def QD:=aI func97
noncomputable def N6:=aI func100
noncomputable def H2:=aI func101
noncomputable def N7:=aI func102
noncomputable def N8:=aI func103
noncomputable def N9:=aI func104
noncomputable def Oa:=aI func105
noncomputable def Oe:=aI func106
noncomputable def Og:=aI func107
noncomputable def H3:=aI func108
noncomputable def Oh:=aI func109
noncomputable def Oj:=aI func111
noncomputable def H4:=aI func113
noncomputable def Ot:=aI func118
noncomputable def c129:F':=cmp f129
def ok129:xr f129 c129:=zz
noncomputable def Ou:=aI func131
noncomputable def Ov:=aI func133
noncomputable def Ox:=aI func134
noncomputable def Oy:=aI func138
noncomputable def Oz:=aI func139
noncomputable def H7:=aI func142
noncomputable def Ek:=aI func146
noncomputable def OD:=aI func147
noncomputable def OG:=aI func149
noncomputable def H8:=aI func150
noncomputable def c151:F':=⟨35,[.cell 2 none],.k [.B 1 0,.o 2 (.new (.bool false))] (.k [.F 3] (.seq (.k [.f 5 0 1,.l 6 5] (.block 0 (.k [.u 8 .eql 6 4,.m 7 8] (.d 7 (.reg [.f 9 18 1,.j 10 7 9,.c 11 180 10,.m 3 11]) (.k [.u 13 .eql 6 3,.m 12 13] (.d 12 (.reg [.f 14 16 1,.j 15 2 14,.c 16 181 15,.m 3 16]) (.k [.u 18 .eql 6 2,.m 17 18] (.d 17 (.reg [.f 19 9 1,.j 20 7 19,.c 21 182 20,.m 3 21]) (.k [.u 23 .eql 6 1,.m 22 23] (.d 22 (.reg [.f 24 1 1,.j 25 8 24,.c 26 183 25,.m 3 26]) .skip)))))))))) (.seq (.k [.m 27 3,.o 28 (.un .not (.t 27))] (.d 28 (.k [.n (.jy 1 (.t 2) (.c (.bool false)))] .ret) .skip)) (.seq (.k [.j 29 25 1,.c 30 179 29] (.block 1 (.rf (.t 30) [31] (dR f151 0).1 (dR f151 0).2 (.reg [.o 4 (.new zP),.s 25 4 31]) (.block 2 (.k [.j 32 25 4,.c 33 151 32,.o 34 (.un .not (.t 33))] (.d 34 (.k [.n (.jy 1 (.t 2) (.c (.bool false)))] .ret) .skip)))
 35 [31,4,32,33,34,2]))) (.k [.n (.jy 1 (.t 2) (.c (.bool true)))] .ret)))))⟩
def ok151:xr f151 c151:=zz
noncomputable def OH:=aI func152
noncomputable def OI:=aI func154
noncomputable def OJ:=aI func155
noncomputable def OL:=aI func156
noncomputable def c157:F':=⟨63,[.t 6],.k [.B 3 0,.a 6 .bF] (.k [.m 12 1,.o 13 (.ex (.wrap 1 (.t 12))),.B 14 13,.o 15 (.ex (.um)),.o 16 (.build (.agg [.bF,.cG]) [(0,0,1,(.t 14)),(1,1,1,(.t 15))]),.B 17 16,.o 7 (.new .bF),.s 1 7 17] (.seq (.k [.m 18 2] (.block 0 (.rf (.t 18) [19] (dR f157 0).1 (dR f157 0).2 (.reg [.m 8 19]) (.block 1 (.seq (.k [.l 21 7,.h 22 21,.f 23 1 22,.l 24 23,.m 25 8,.o 26 (.ex (.xf .str .bF true (.t 24) (.t 25))),.m 20 26,.e 27 0 20,.e 28 1 20,.m 9 27,.m 10 28] (.k [.m 29 10] (.d 29 (.exit 1) .skip))) (.k [.l 30 3,.h 31 30,.f 32 0 31,.l 33 32,.m 34 8,.m 35 8,.o 36 (.build (.agg [(.int .i64 0),(.str ⟨⟨[]⟩⟩),(.str ⟨⟨[]⟩⟩)]) [(0,0,1,(.t 33)),(1,1,1,(.t 34)),(2,2,1,(.t 35))]),.B 37 36,.m 11 37] (.k [.l 38 3,.h 39 38,.f 40 0 39,.l 41 40,.u 42 .add 41 1,.h 43 38,.f 44 0 43,.s 1 44 42] (.k [.l 45 7,.h 46 45,.f 47 1 46,.l 48 47,.m 49 8,.m 50 11,.n (.ex (.sn .str (.t 48) (.t 49) (.t 50)))] (.k [.l 51 3,.h 52 51,.f 53 1 52,.l 54 53,.o 55 (.eq .func true (.t 54) (.c .bB))] (.d 55 (.reg [.l 56 3,.h 57 56,.f 58 1 57,.l 59 58,.m 60 11,.o 61 (.call (.t 59) [(.t 60)])]) .skip)))))))
 63 [19,21,22,23,24,25,26,20,27,28,10,29,30,31,32,33,34,35,36,37,39,40,41,38,43,44,42,7,45,46,47,8,48,49,50,51,52,53,54,55,3,56,57,58,11,59,60]))) (.k [.l 62 7,.m 6 62] .ret)))⟩
def ok157:xr f157 c157:=zz
noncomputable def OM:=aI func158
noncomputable def ON:=aI func159
noncomputable def OT:=aI func164
noncomputable def H9:=aI func168
noncomputable def OU:=aI func169
noncomputable def OW:=aI func173
noncomputable def OX:=aI func174
noncomputable def c177:F':=⟨31,[.cell 7 none],.k [.B 5 0,.B 6 1,.o 7 (.new (.bool false))] (.seq (.draw [.q (.l 9 2) false true [] 0 1,.p (.j 10 25 5) [],.q (.c 11 178 10) true false [1] 0 0,.q (.b 12 .add 9 11) false false [0,2,1] 1 1,.q (.s 1 2 12) true false [3,0,2,1] 1 1] []) (.k [.l 13 3,.l 14 6,.o 15 (.ex (.mm true (.t 13) (.t 14))),.s 1 3 15] (.seq (.k [.l 16 2,.u 17 .gtr 16 2000,.m 18 17,.M 19 18 false 3,.v 20 18 false (.bin .gtr (.t 19) (.c (.int .i64 60))),.z 21 18 20] (.d 21 (.k [.n (.jy 1 (.t 7) (.c (.bool false)))] .ret) .skip)) (.seq (.k [.j 22 25 5,.c 23 179 22] (.block 0 (.rf (.t 23) [24] (dR f177 0).1 (dR f177 0).2 (.reg [.o 8 (.new zP),.s 25 8 24]) (.block 1 (.k [.l 25 4,.j 26 25 8,.l 27 6,.u 28 .add 27 1,.o 29 (.call (.t 25) [(.t 26),(.t 28)]),.o 30 (.un .not (.t 29))] (.d 30 (.k [.n (.jy 1 (.t 7) (.c (.bool false)))] .ret) .skip)))
 31 [24,4,8,6,27,25,26,28,29,30,7]))) (.k [.n (.jy 1 (.t 7) (.c (.bool true)))] .ret)))))⟩
def ok177:xr f177 c177:=zz
noncomputable def An:=aI func178
noncomputable def O0:=aI func179
noncomputable def O1:=aI func180
noncomputable def O2:=aI func182
noncomputable def O3:=aI func183
noncomputable def O4:=aI func184
noncomputable def O5:=aI func186
noncomputable def O6:=aI func187
noncomputable def O7:=aI func188
noncomputable def yc:=aI func193
noncomputable def Pj:=aI func195
set_option maxHeartbeats 0
set_option maxRecDepth 100000
noncomputable def Aq:=aI func200
noncomputable def Ar:=aI func201
noncomputable def As:=aI func202
noncomputable def Pm:=aI func203
noncomputable def Pn:=aI func204
noncomputable def Po:=aI func206
noncomputable def Pq:=aI func207
noncomputable def vB:=aI func208
noncomputable def Ib:=aI func209
noncomputable def Au:=aI func212
noncomputable def Px:=aI func213
noncomputable def Py:=aI func214
noncomputable def Pz:=aI func215
noncomputable def PD:=aI func218
noncomputable def PE:=aI func219
noncomputable def PG:=aI func220
noncomputable def PH:=aI func221
noncomputable def PO:=aI func228
noncomputable def PP:=aI func229
noncomputable def Ie:=aI func233
noncomputable def PU:=aI func249
noncomputable def PV:=aI func250
noncomputable def PW:=aI func251
noncomputable def PX:=aI func252
noncomputable def Ig:=aI func253
noncomputable def c255:F':=⟨36,[],.k [.B 2 0] (.seq (.k [.f 8 6 1,.l 9 8,.L 10 9,.G 11 0] (.block 0 (.loop (.k [.b 12 .lss 11 10] (.seq (.d 12 .skip (.exit 0)) (.seq (.block 1 (.k [.i 13 7 9 11,.j 14 7 13,.o 4 (.new zD),.s 7 4 14] (.k [.f 15 3 4,.l 16 15,.L 17 16,.G 18 0] (.block 2 (.loop (.k [.b 19 .lss 18 17] (.seq (.d 19 .skip (.exit 2)) (.seq (.block 3 (.k [.i 20 1 16 18,.l 21 20,.m 6 21] (.k [.l 22 2,.m 23 6,.o 24 (.call (.t 22) [(.t 23)]),.o 25 (.un .not (.t 24))] (.d 25 .ret .skip)))) (.reg [.u 26 .add 18 1,.m 18 26]))))))))) (.reg [.u 27 .add 11 1,.m 11 27]))))))) (.k [.f 28 7 1,.l 29 28,.c 30 158 29] (.block 4 (.rf (.t 30) [31] (dR f255 0).1 (dR f255 0).2 (.reg [.m 7 31]) (.block 5 (.k [.l 32 2,.m 33 7,.o 34 (.call (.t 32) [(.t 33)]),.o 35 (.un .not (.t 34))] (.d 35 .ret .skip)))
 36 [31,2,7,32,33,34,35]))))⟩
def ok255:xr f255 c255:=zz
noncomputable def PZ:=aI func269
set_option maxRecDepth 20000
def qaM(k:Nat)(f':F'):Prop:=∃f,prog.funcs[k]?=some f/\lD prog f=some f'
noncomputable def Z4(k:Nat):Option F':=(prog.funcs[k]?).bind (lD prog)
def qme(k:Nat)(f':F')(h:Z4 k=some f'):qaM k f':=pK.1 h
noncomputable def TT(l:List Pr):Tb:=⟨Z4,fun k args=>Pr.find k args l⟩
def eF{l:List Pr}(h:∀p,p∈l->p.ok prog):(TT l).Ok prog:=⟨qme,fun _ _ _ hf=>Pr.find_spec h hf⟩
def eO{p:Pr}{l:List Pr}(h:p.ok prog)(g:∀q,q∈l->q.ok prog):∀q,q∈p::l->q.ok prog:=fun q hq=>by
 rcases cX.1 hq with rfl|hq
 .exact h
 .exact g q hq
def SR.grown{E:En}{S:St}{w w':World}(h:SR E S w)(hb:∀b,b<w.heap.size->w'.heap[b]?=w.heap[b]?)(hs:w.heap.size<=w'.heap.size)(ho:(w'.output,w'.os)=(w.output,w.os)):SR E S w'/\∀n,Ext n E S w E S w':=by
 refine⟨⟨h.gl.old (fun _ _ _ h=>h) (fun b _ _ _ hc _=>hb b (wL hc)),fun b o' c hc=>?_,fun l ob hl=>?_,h.dom,h.apart,fun b hb'=>?_,h.inj⟩,fun n=>⟨hs,fun _ _ _ h=>h,fun _ _ _ _ h=>h,fun _ _ h=>h,fun _ h=>.inl h,fun _ _ _ h=>.inl h,fun b hb' _=>hb b hb',ho⟩⟩
 .have:=h.I b o' c hc;rw[qG (hb b (oL this))];exact this
 .by_cases hd:ob=.dead
  .subst hd;trivial
  exact(h.obs l ob hl).mono (En.le_refl E) (fun _ _ hx=>hx) (fun st x hx=>hb _ (h.lt _ ⟨l,st,x,⟨ob,hl,hd⟩,hx,rfl⟩))
 .have:=h.lt b hb';omega
def SR.tab {E : En} {S : St} {w : World} (h : SR E S w) : Lib.TabIs prog w "internal/strconv.uint64pow10" .u64 Lib.pow10Tab := by
 obtain⟨t,fz,hh⟩:=h.gl.2 2 _ (by simp only[yT,ai];rfl);unfold Lib.TabIs World.var?
 rw [show prog.globalNamed "internal/strconv.uint64pow10" = some 2 by decide +kernel]
 simp only[ez,hh];simp[Lib.pow10Tab,lu,Function.comp]
def au.qhm{P:Program}{f:FuncId}{fn:Func}{f':F'}{args:List V}{S:St}{R:V->St->Prop}(hf:P.funcs[f]?=some fn)(hc:lD P fn=some f')
  (h:∀(E:En) (w:World) (us:Array Value),SR E S w->pM E args us->Calls P f us w fun e w'=>∃u r E' S',e=.returned u/\R r S'/\VR E' r u/\SR E' S' w'/\Ext S.length E S w E' S' w'/\S.length<=S'.length):au P f args S R:=by
 refine⟨fun xs w=>?_,fun E w us n hs hv=>callsIn_wide.2 (h E w us hs hv)⟩;unfold lD at hc;split at hc
 .rename_i c rs hb hrs;split at hc
  .cases hc
  .rename_i hname;simp[callFunc,program,Sem.run,Result.andThen,hf,hname,hb]
 .cases hc
def qkn(n:Nat)(hn:n<=9223372036854775807)(S:St):au prog 129 [.int .i64 n] S (fun r U=>r=.str ⟨(fk n).toArray⟩/\U=S):=by
 refine au.qhm func129 ok129 fun E w us hs hv=>?_
 obtain⟨hl,hv⟩:=hv
 have hu:us=#[.int .i64 n]:=by
  match us,hl with
  |⟨[u]⟩,_=>
   have:=hv 0 _ u rfl rfl;cases this;rfl
 subst hu;refine Calls.mono (Tryz.strconv_Itoa n oM oM w hs.tab) ?_;rintro e w' ⟨rfl,k,os,rfl⟩;obtain⟨g1,g2⟩:=hs.grown (w':=Sort.grow (w.drewN k) os) (fun b hb=>by simp[Sort.grow,World.drewN,Array.getElem?_append,hb]) (by simp[Sort.grow,World.drewN]) rfl;refine⟨_,_,E,S,rfl,⟨rfl,rfl⟩,?_,g1,g2 _,cq _⟩;rw[show Lib.itoa (n:Int)=fk n by unfold Lib.itoa fk;simp];exact VR.str _
def aS{rs:List RV}{n:Nat}{R:V->St->Prop}{e:af}{S:St}{vs:List V}(h:dm e S rs=some vs)(g:R (aK vs) S):eH rs n R .ret e S:=⟨vs,h,_,_,cK.refl _ _ _,g⟩
def i9{rs:List RV}{n:Nat}{R:V->St->Prop}{e:af}{S:St}{vs:List V}(h:dm e S rs=some vs)(g:R (aK vs) S):eH rs n R .normal e S:=⟨vs,h,_,_,cK.refl _ _ _,g⟩
abbrev Fn(P:Program)(k:Nat)(args:List V)(S:St)(r:V):Prop:=au P k args S (fun v U=>v=r/\U=S)
def Ab(P:Program)(k:Nat)(args:List V)(S:St)(Φ:V->St->Prop):Prop:=∃R,au P k args S R/\∀v S',R v S'->Φ v S'
def NW(P:Program)(l:Nat)(args:List V)(S:St)(Φ:V->St->Prop):Prop:=∃R,fA P l args S R/\∀v S',R v S'->Φ v S'
def Ac(P:Program)(os:List O')(Q:af->St->Prop)(e:af)(d:Option Nat)(v:V)(S:St):Prop:=dk P os Q (e.put d v) S
def qau(r:Option (V×St))(P:Program)(d:Option Nat)(k:K)(os:List O')(Q:af->St->Prop)(e:af)(S:St):Prop:=match r with
 |some (r,S')=>dk P os Q (e.put d r) S'
 |none=>(kF e k≠[]/\∀v,v∈kF e k->dk P os Q (e.put d v) S)\/(mC e S k≠[]/\∀q,q∈mC e S k->dk P os Q (e.put d q.1) q.2)
def HT(g:Option Bool)(P:Program)(d:Option Nat)(k:K)(os:List O')(Q:af->St->Prop)(e:af)(S:St):Prop:=match g with
 |none=>False
 |some false=>dk P os Q (e.put d (.aH [])) S
 |some true=>dk P (⟨d,none,k⟩::os) Q e S
def HS(c:Option V)(P:Program)(a b:C')(Q:cM)(e:af)(S:St):Prop:=match c with
 |some (.bool true)=>WP P a Q e S
 |some (.bool false)=>WP P b Q e S
 |_=>False
def NV(f:Option V)(vs:Option (List V))(P:Program)(d:Option Nat)(os:List O')(Q:af->St->Prop)(e:af)(S:St):Prop:=match f,vs with
 |some (.fn (.func k) fs cs),some vs=>Ab P k (fs++vs++cs) S (Ac P os Q e d)
 |some (.cj l),some vs=>NW P l vs S (Ac P os Q e d)
 |_,_=>False
def qmH{P:Program}{os:List O'}{Q:af->St->Prop}{e:af}{d:Option Nat}{v:V}{S:St}:Ac P os Q e d v S=dk P os Q (e.put d v) S:=(rfl)
def qmR{P:Program}{d:Option Nat}{k:K}{os:List O'}{Q:af->St->Prop}{e:af}{r:V}{S S':St}:qau (some (r,S')) P d k os Q e S=dk P os Q (e.put d r) S':=(rfl)
def qmy{P:Program}{d:Option Nat}{k:K}{os:List O'}{Q:af->St->Prop}{e:af}{S:St}:HT (some false) P d k os Q e S=dk P os Q (e.put d (.aH [])) S:=(rfl)
def qmz{P:Program}{d:Option Nat}{k:K}{os:List O'}{Q:af->St->Prop}{e:af}{S:St}:HT (some true) P d k os Q e S=dk P (⟨d,none,k⟩::os) Q e S:=(rfl)
def qmv{P:Program}{a b:C'}{Q:cM}{e:af}{S:St}:HS (some (.bool true)) P a b Q e S=WP P a Q e S:=(rfl)
def qmu{P:Program}{a b:C'}{Q:cM}{e:af}{S:St}:HS (some (.bool false)) P a b Q e S=WP P b Q e S:=(rfl)
def qmS{P:Program}{k:Nat}{fs cs vs:List V}{d:Option Nat}{os:List O'}{Q:af->St->Prop}{e:af}{S:St}:NV (some (.fn (.func k) fs cs)) (some vs) P d os Q e S=Ab P k (fs++vs++cs) S (Ac P os Q e d):=(rfl)
def qmT{P:Program}{l:Nat}{vs:List V}{d:Option Nat}{os:List O'}{Q:af->St->Prop}{e:af}{S:St}:NV (some (.cj l)) (some vs) P d os Q e S=NW P l vs S (Ac P os Q e d):=(rfl)
def qmK{P:Program}{Q:af->St->Prop}{e:af}{S:St}:dk P [] Q e S=Q e S:=(rfl)
def qmJ{P:Program}{d:Option Nat}{g:Nat×Bool}{k:K}{os:List O'}{Q:af->St->Prop}{e:af}{S:St}:dk P (⟨d,some g,k⟩::os) Q e S=HT (ga e (some g)) P d k os Q e S:=by
 unfold HT
 cases h:ga e (some g) with
 |none=>simp only[dk,h]
 |some b=>cases b<;>simp only[dk,h]<;>rfl
def qmI{P:Program}{d:Option Nat}{f:aV}{args:List aV}{os:List O'}{Q:af->St->Prop}{e:af}{S:St}:dk P (⟨d,none,.call f args⟩::os) Q e S=NV (f.ev e) (iI e args) P d os Q e S:=(rfl)
def qao{P:Program}{d:Option Nat}{k:K}{os:List O'}{Q:af->St->Prop}{e:af}{S:St}(h:∀f args,k≠.call f args):dk P (⟨d,none,k⟩::os) Q e S=qau (br e S k) P d k os Q e S:=by
 cases k<;>first|rfl|exact absurd rfl (h _ _)
def aG{P:Program}{k:Nat}{args:List V}{S:St}{r:V}{Φ:V->St->Prop}(h:Fn P k args S r)(g:Φ r S):Ab P k args S Φ:=
 ⟨_,h,fun _ _ hh=>by obtain⟨rfl,rfl⟩:=hh;exact g⟩
def aU{P:Program}{k:Nat}{args:List V}{S:St}{R:V->St->Prop}{Φ:V->St->Prop}(h:au P k args S R)(g:∀v U,R v U->Φ v U):Ab P k args S Φ:=⟨_,h,g⟩
def Q0{P:Program}{Q:cM}{e:af}{S:St}:WP P .skip Q e S=Q .normal e S:=(rfl)
def QY{P:Program}{ops:List O'}{Q:cM}{e:af}{S:St}:WP P (.reg ops) Q e S=dk P ops (Q .normal) e S:=(rfl)
def vX{P:Program}{a b:C'}{Q:cM}{e:af}{S:St}:WP P (.seq a b) Q e S=WP P a (jw (WP P b Q) Q) e S:=(rfl)
def qaU{P:Program}{c:aV}{a b:C'}{Q:cM}{e:af}{S:St}:WP P (.cond c a b) Q e S=HS (c.ev e) P a b Q e S:=by
 unfold HS;simp only[WP]
 cases c.ev e with
 |none=>rfl
 |some v=>cases v<;>first|rfl|(rename_i b;cases b<;>simp)
def QT{P:Program}{id:Nat}{c:C'}{Q:cM}{e:af}{S:St}:WP P (.block id c) Q e S=WP P c (qi id Q) e S:=(rfl)
def QZ{P:Program}{c:C'}{Q:cM}{e:af}{S:St}:WP P (.scope c) Q e S=WP P c (xy Q) e S:=(rfl)
def qaX{P:Program}{id:Nat}{Q:cM}{e:af}{S:St}:WP P (.exit id) Q e S=Q (.exit id) e S:=(rfl)
def qaY{P:Program}{Q:cM}{e:af}{S:St}:WP P .ret Q e S=Q .ret e S:=(rfl)
def bN{P:Program}{c:C'}{Q:cM}{e:af}{S:St}(I:Nat->af->St->Prop)(n0:Nat)(e0:af)(hs:af.sub e0 e)(h0:I n0 e0 S)
 (h:∀n e S,I n e S->WP P c (jw (fun e S=>∃n',n'<n/\∃e',af.sub e' e/\I n' e' S) Q) e S):WP P (.loop c) Q e S:=⟨I,n0,⟨e0,hs,h0⟩,h⟩
def Yg{N:af->St->Prop}{Q:cM}{e:af}{S:St}:jw N Q .normal e S=N e S:=(rfl)
def af.fh(e:af):af.sub [] e:=fun t v h=>by simp[af.get]at h
def af.dV{e e':af}{k:Nat}{v:V}(h:e.get k=some v)(g:af.sub e' e):af.sub ((k,v)::e') e:=fun t u hu=>by
 simp only[af.get]at hu;split at hu
 .rename_i hk;subst hk;cases hu;exact h
 .exact g _ _ hu
@[simp] def af.sa:af->af->Prop
 |[],_=>True
 |(k,v)::r,e=>e.get k=some v/\af.sa r e
def af.so:∀{a e:af},af.sa a e->af.sub a e
 |[],e,_=>af.fh e
 |(k,v)::r,e,h=>af.dV h.1 (af.so h.2)
def aN{a e:af}(h:af.sa a e:=by simp):af.sub a e:=af.so h
def dP{n:Int}(h0:-9223372036854775808<=n)(h1:n<=9223372036854775807):IntKind.i64.wrap n=n:=by rw[IntKind.wrap_i64];omega
def qnt{n:Int}(h0:-9223372036854775808<=n:=by omega)(h1:n<=9223372036854775807:=by omega):IntKind.i64.wrap n=n:=dP h0 h1
def bP(i:Nat)(h:(i:Int)+1<=9223372036854775807:=by omega):IntKind.i64.wrap ((i:Int)+1)=(i:Int)+1:=dP oM h
def ZV(a b:Bz):sO a b=decide (a=b):=by
 unfold sO;by_cases h:a=b
 .subst h;simp
 ·have:¬ a.toList=b.toList:=fun hh=>h (by
   rw[uU,uU]at hh;exact pE (qz hh))
  simp[h,this]
def jb{l:List Bz}{i:Nat}(h:i<l.length)(b:Bool)(S:St):eJ S 1 (.sl b (l.map .str)) i=some (.bG (.str l[i]) 0):=by simp[eJ,h,V.size,V.cells]
theorem qgi(s:Bz)(S:St):ae S (.bG (.str s) 0) none=some (.str s):=rfl
def ql2(a b:Bz):nY .eql a b=some (.bool (decide (a=b))):=by simp[nY,ZV]
def ql3(a b:Bz):nY .neq a b=some (.bool (!decide (a=b))):=by simp[nY,ZV]
def Cc{s:Bz}{i:Nat}(h:i<s.size):pZ s i=some (.int .u8 (s.data[i]'h).toNat):=by
 have h1:(s[(i:Int).toNat]?:Option UInt8)=some s[i]:=getElem?_pos s i h;unfold pZ;rw[h1];simp[ByteArray.getElem_eq_getElem_data]
def UH{s:Bz}(h:0<s.size):pZ s 0=some (.int .u8 (s.data[0]'h).toNat):=by
 have:=Cc h;simpa using this
attribute [simp] Q0 QY vX qaU QT QZ qaX qaY qmH qmR qmy qmz qmv qmu qmS qmT qmK qmJ qmI qao Yg jw qi
 ga br iI aV.ev af.get af.put iF tL wT zW dm aK qgi ql2 ql3
set_option maxHeartbeats 0
set_option maxRecDepth 100000
noncomputable def P7:=aI func45
noncomputable def Em:=aI func21
noncomputable def QA:=aI func94
noncomputable def Ep:=aI func34
noncomputable def Qi:=aI func64
noncomputable def Qj:=aI func65
noncomputable def Qk:=aI func66
noncomputable def On:=aI func115
noncomputable def Om:=aI func114
noncomputable def Oo:=aI func116
def kz(c:Int):Bool:=decide (97<=c)&&decide (c<=122)
def nK(c:Int):Bool:=decide (48<=c)&&decide (c<=57)
def Zh(c:Int)(S:St):Fn prog 102 [.int .u8 c] S (.bool (kz c)):=by
 refine au.ib N7 ?_;unfold kz;by_cases h1:97<=c<;>by_cases h2:c<=122<;>simp[N7,h1,h2]<;>exact aS rfl sM
def qkz(c:Int)(S:St):Fn prog 155 [.int .u8 c] S (.bool (nK c)):=by
 refine au.ib OJ ?_;unfold nK;by_cases h1:48<=c<;>by_cases h2:c<=57<;>simp[OJ,h1,h2]<;>exact aS rfl sM
def ZI(c:Int)(S:St):Fn prog 64 [.int .u8 c] S (.bool (kz c)):=by
 refine au.ib Qi ?_;unfold kz;by_cases h1:97<=c<;>by_cases h2:c<=122<;>simp[Qi,h1,h2]<;>exact aS rfl sM
def qkm(c:Int)(S:St):Fn prog 116 [.int .u8 c] S (.bool (nK c)):=by
 refine au.ib Oo ?_;unfold nK;by_cases h1:48<=c<;>by_cases h2:c<=57<;>simp[Oo,h1,h2]<;>exact aS rfl sM
def qkg(c:Int)(S:St):Fn prog 106 [.int .u8 c] S (.bool (kz c||nK c)):=by
 refine au.ib Oe ?_;simp[Oe];refine aG (Zh c S) ?_;cases kz c<;>simp
 .refine aG (qkz c S) ?_
  try simp
  exact aS rfl sM
 .exact aS rfl sM
def qkf(c:Int)(S:St):Fn prog 105 [.int .u8 c] S (.bool (!(kz c||nK c))):=by
 refine au.ib Oa ?_;simp[Oa];refine aG (qkg c S) ?_
 try simp
 exact aS rfl sM
def Ea:List V:=[(.str ⟨⟨[98,101,103,105,110]⟩⟩),(.str ⟨⟨[101,110,100]⟩⟩),(.str ⟨⟨[105,102]⟩⟩),(.str ⟨⟨[116,104,101,110]⟩⟩),(.str ⟨⟨[101,108,115,101]⟩⟩),(.str ⟨⟨[102,111,114]⟩⟩),(.str ⟨⟨[100,111]⟩⟩),(.str ⟨⟨[115,116,101,112]⟩⟩),(.str ⟨⟨[117,110,116,105,108]⟩⟩),(.str ⟨⟨[119,104,105,108,101]⟩⟩),(.str ⟨⟨[103,111,116,111]⟩⟩),(.str ⟨⟨[111,119,110]⟩⟩),(.str ⟨⟨[105,110,116,101,103,101,114]⟩⟩),(.str ⟨⟨[114,101,97,108]⟩⟩),(.str ⟨⟨[98,111,111,108,101,97,110]⟩⟩),(.str ⟨⟨[97,114,114,97,121]⟩⟩),(.str ⟨⟨[115,119,105,116,99,104]⟩⟩),(.str ⟨⟨[112,114,111,99,101,100,117,114,101]⟩⟩),(.str ⟨⟨[118,97,108,117,101]⟩⟩),(.str ⟨⟨[108,97,98,101,108]⟩⟩),(.str ⟨⟨[115,116,114,105,110,103]⟩⟩),(.str ⟨⟨[116,114,117,101]⟩⟩),(.str ⟨⟨[102,97,108,115,101]⟩⟩),(.str ⟨⟨[99,111,109,109,101,110,116]⟩⟩),(.str ⟨⟨[110,111,116]⟩⟩),(.str ⟨⟨[97,110,100]⟩⟩),(.str ⟨⟨[111,114]⟩⟩),(.str ⟨⟨[105,109,112]⟩⟩),(.str ⟨⟨[101,113,118]⟩⟩)]
def qmk:V->Bz
 |.str s=>s
 |_=>⟨#[]⟩
def m9:List Bz:=Ea.map qmk
theorem qai:m9.map V.str=Ea:=rfl
theorem qah:m9.length=29:=rfl
def qkl(S:St):Fn prog 115 [] S (.sl true (m9.map .str)):=by
 rw[qai];refine au.ib On ?_;show eH On.c.rs S.length _ .ret [(0,.sl true Ea),(1,.sl true Ea),(0,.sl true [])] S;exact aS (vs:=[.sl true Ea]) rfl ⟨rfl,rfl⟩
def qkO(b:Bool)(l:List Bz)(s:Bz)(S:St)(hl:l.length<=1000000):au prog 184 [.sl b (l.map .str),.str s] S (fun v U=>(∃i:Int,v=.int .i64 i/\(0<=i↔s∈l))/\U=S):=by
 refine au.ib O4 ?_;simp[O4];refine bN (fun n e S'=>∃i:Nat,n=l.length - i∧i≤l.length∧(∀j,(h:j<l.length)→j<i→l[j]≠s)∧S'=S∧
  e=[(8,.int .i64 i),(7,.int .i64 l.length),(4,.int .i64 0),(0,.sl b (l.map .str)),(1,.str s)]) l.length _ ?_ ⟨0,by simp,by omega,by omega,rfl,rfl⟩ ?_
 .exact aN
 rintro n e S' ⟨i,rfl,hi,hno,rfl,rfl⟩;by_cases h:i<l.length
 .by_cases he:s=l[i]
  .simp[h,jb,he];exact aS rfl ⟨⟨i,rfl,by simp⟩,rfl⟩
  .simp[h,jb,he,bP i];refine⟨_,?_,_,?_,i+1,rfl,by omega,fun j hj hji=>?_,rfl⟩
   .omega
   .exact aN
   .by_cases hj':j=i
    .subst hj';exact fun hh=>he hh.symm
    .exact hno j hj oM
 .simp[h];refine aS rfl ⟨⟨-1,rfl,?_⟩,rfl⟩;simp;intro hs;obtain⟨j,hj,rfl⟩:=pH hs;exact hno j hj oM rfl
set_option maxRecDepth 20000
def Re:V:=(.agg [(.int .i64 1),z0,(.int .i64 1),z0,z0,(.str ⟨⟨[]⟩⟩),sN])
def Rb:V:=(.agg [(.int .i64 1),z0,(.int .i64 2),z0,z0,(.str ⟨⟨[]⟩⟩),sN])
def Q9:V:=(.agg [(.int .i64 6),z0,z0,z0,z0,(.str ⟨⟨[97]⟩⟩),sN])
def Q8:V:=(.agg [(.int .i64 6),z0,z0,z0,z0,(.str ⟨⟨[107]⟩⟩),sN])
def Q7:V:=(.agg [(.int .i64 6),z0,z0,z0,z0,(.str ⟨⟨[105]⟩⟩),sN])
def Q6:V:=(.agg [(.int .i64 6),z0,z0,z0,z0,(.str ⟨⟨[108]⟩⟩),sN])
def Q5:V:=(.agg [(.int .i64 1),(.bool false),(.int .i64 1),(.sl true [(.str ⟨⟨[98]⟩⟩)]),sN,sN,sN])
def Q4:V:=(.sl true [(.agg [(.int .i64 1),(.bool false),(.int .i64 1),(.sl true [(.str ⟨⟨[120]⟩⟩)]),sN,sN,sN])])
def Q3:V:=(.sl true [(.agg [(.int .i64 1),(.bool false),(.int .i64 1),(.sl true [(.str ⟨⟨[120,49]⟩⟩)]),sN,sN,sN])])
def Q2:V:=(.sl false [(.agg [(.int .i64 1),(.bool false),(.int .i64 1),(.sl false [(.str ⟨⟨[120,49]⟩⟩)]),sN,sN,sN])])
def IA:V:=(.agg [(.int .i64 6),z0,z0,z0,z0,(.str ⟨⟨[116]⟩⟩),sN])
def Q1:V:=(.agg [sN,(.int .i64 3),(.str ⟨⟨[]⟩⟩),sN,(.sl true [Q6]),sN,sN,sN])
def Iz:V:=(.agg [sN,z0,(.str ⟨⟨[]⟩⟩),sN,sN,sN,sN,sN])
def EU:V:=(.agg [(.int .i64 6),z0,z0,z0,z0,(.str ⟨⟨[122]⟩⟩),sN])
def ET:V:=(.agg [(.int .i64 6),z0,z0,z0,z0,(.str ⟨⟨[121]⟩⟩),sN])
def AY:V:=(.agg [(.int .i64 6),z0,z0,z0,z0,(.str ⟨⟨[98]⟩⟩),sN])
def Y9:V:=(.agg [(.int .i64 7),z0,z0,z0,z0,(.str ⟨⟨[113]⟩⟩),(.sl true [Q7])])
def Y8:V:=(.agg [(.int .i64 10),(.int .i64 3),z0,z0,z0,(.str ⟨⟨[]⟩⟩),(.sl true [Q8,Re])])
def Y4:V:=(.agg [(.int .i64 6),z0,z0,z0,z0,(.str ⟨⟨[120,49]⟩⟩),sN])
def Y3:V:=(.agg [(.int .i64 6),z0,z0,z0,z0,(.str ⟨⟨[120]⟩⟩),sN])
def Y2:V:=(.agg [(.int .i64 4),(.bool false),z0,(.sl true [(.str ⟨⟨[112]⟩⟩)]),sN,(.sl true [(.agg [(.str ⟨⟨[97]⟩⟩),(.bool false),z0,z0]),(.agg [(.str ⟨⟨[98]⟩⟩),(.bool true),(.int .i64 1),(.int .i64 1)])]),(.sl true [(.agg [sN,(.int .i64 7),(.str ⟨⟨[]⟩⟩),sN,sN,sN,Q4,(.sl true [(.agg [sN,(.int .i64 2),(.str ⟨⟨[]⟩⟩),(.sl true [Y3]),(.sl true [AY]),sN,sN,sN]),(.agg [sN,(.int .i64 2),(.str ⟨⟨[]⟩⟩),(.sl true [Q9]),(.sl true [(.agg [(.int .i64 10),(.int .i64 3),z0,z0,z0,(.str ⟨⟨[]⟩⟩),(.sl true [Q9,Y3])])]),sN,sN,sN])])])])])
def Y1:V:=(.agg [sN,(.int .i64 7),(.str ⟨⟨[]⟩⟩),sN,sN,sN,(.sl true [(.agg [(.int .i64 1),(.bool false),(.int .i64 1),(.sl true [(.str ⟨⟨[116]⟩⟩)]),sN,sN,sN])]),(.sl true [(.agg [sN,(.int .i64 2),(.str ⟨⟨[]⟩⟩),(.sl true [IA]),(.sl true [ET]),sN,sN,sN]),(.agg [(.sl true [(.str ⟨⟨[109]⟩⟩)]),(.int .i64 8),(.str ⟨⟨[]⟩⟩),sN,sN,sN,sN,(.sl true [(.agg [sN,(.int .i64 2),(.str ⟨⟨[]⟩⟩),(.sl true [IA]),(.sl true [(.agg [(.int .i64 10),(.int .i64 3),z0,z0,z0,(.str ⟨⟨[]⟩⟩),(.sl true [IA,EU])])]),sN,sN,sN]),(.agg [sN,(.int .i64 3),(.str ⟨⟨[]⟩⟩),sN,(.sl true [(.agg [(.int .i64 6),z0,z0,z0,z0,(.str ⟨⟨[109]⟩⟩),sN])]),sN,sN,sN])])])])])
def Y0:V:=(.agg [sN,(.int .i64 7),(.str ⟨⟨[]⟩⟩),sN,sN,sN,Q4,(.sl true [(.agg [sN,(.int .i64 2),(.str ⟨⟨[]⟩⟩),(.sl true [Y3]),(.sl true [ET]),sN,sN,sN]),(.agg [(.sl true [(.str ⟨⟨[108]⟩⟩)]),(.int .i64 8),(.str ⟨⟨[]⟩⟩),sN,sN,sN,sN,(.sl true [(.agg [sN,(.int .i64 2),(.str ⟨⟨[]⟩⟩),(.sl true [Y3]),(.sl true [(.agg [(.int .i64 10),(.int .i64 3),z0,z0,z0,(.str ⟨⟨[]⟩⟩),(.sl true [Y3,EU])])]),sN,sN,sN]),Q1])])])])
def ES:V:=(.agg [(.int .i64 10),(.int .i64 5),z0,z0,z0,(.str ⟨⟨[]⟩⟩),(.sl true [Y3,Rb])])
def Y7:V:=(.agg [sN,(.int .i64 7),(.str ⟨⟨[]⟩⟩),sN,sN,sN,Q3,(.sl true [(.agg [sN,(.int .i64 2),(.str ⟨⟨[]⟩⟩),(.sl true [Y4]),(.sl true [ES]),sN,sN,sN]),(.agg [(.sl true [(.str ⟨⟨[108]⟩⟩)]),(.int .i64 8),(.str ⟨⟨[]⟩⟩),sN,sN,sN,sN,(.sl true [(.agg [sN,(.int .i64 2),(.str ⟨⟨[]⟩⟩),(.sl true [Y4]),(.sl true [(.agg [(.int .i64 10),(.int .i64 3),z0,z0,z0,(.str ⟨⟨[]⟩⟩),(.sl true [Y4,Y9])])]),sN,sN,sN]),Q1])])])])
def Y6:V:=(.agg [sN,(.int .i64 7),(.str ⟨⟨[]⟩⟩),sN,sN,sN,Q2,(.sl false [(.agg [sN,(.int .i64 2),(.str ⟨⟨[]⟩⟩),(.sl false [Y4]),(.sl false [(.agg [(.int .i64 10),(.int .i64 5),z0,z0,z0,(.str ⟨⟨[]⟩⟩),(.sl false [Y3,Rb])])]),sN,sN,sN]),(.agg [(.sl false [(.str ⟨⟨[108]⟩⟩)]),(.int .i64 8),(.str ⟨⟨[]⟩⟩),sN,sN,sN,sN,(.sl false [(.agg [sN,(.int .i64 2),(.str ⟨⟨[]⟩⟩),(.sl false [Y4]),(.sl false [(.agg [(.int .i64 10),(.int .i64 3),z0,z0,z0,(.str ⟨⟨[]⟩⟩),(.sl false [Y4,(.agg [(.int .i64 7),z0,z0,z0,z0,(.str ⟨⟨[113]⟩⟩),(.sl false [Q7])])])])]),sN,sN,sN]),(.agg [sN,(.int .i64 3),(.str ⟨⟨[]⟩⟩),sN,(.sl false [Q6]),sN,sN,sN])])])])])
def Y5:V:=(.agg [sN,(.int .i64 7),(.str ⟨⟨[]⟩⟩),sN,sN,sN,(.sl false [Q5]),(.sl false [(.agg [sN,(.int .i64 2),(.str ⟨⟨[]⟩⟩),(.sl true [AY]),(.sl true [(.agg [(.int .i64 10),(.int .i64 3),z0,z0,z0,(.str ⟨⟨[]⟩⟩),(.sl false [Q8,Re])])]),sN,sN,sN]),(.agg [sN,(.int .i64 7),(.str ⟨⟨[]⟩⟩),sN,sN,sN,Q2,(.sl false [(.agg [sN,(.int .i64 2),(.str ⟨⟨[]⟩⟩),(.sl false [Y4]),(.sl false [AY]),sN,sN,sN]),(.agg [sN,(.int .i64 2),(.str ⟨⟨[]⟩⟩),(.sl false [Y3]),(.sl false [(.agg [(.int .i64 10),(.int .i64 3),z0,z0,z0,(.str ⟨⟨[]⟩⟩),(.sl false [Y3,Y4])])]),sN,sN,sN])])])])])
def WW:List Pr:=[]
theorem WX:∀p,p∈WW->p.ok prog:=fun p hp=>by cases hp
def Wa:Pr:=⟨53,[(.str ⟨⟨[120]⟩⟩),(.str ⟨⟨[108]⟩⟩),ET,EU],Y0⟩
theorem qh4:Wa.ok prog:=Pr.run (eF WX) 200 (by decide+kernel)
def WY:List Pr:=Wa::WW
theorem Xn:∀p,p∈WY->p.ok prog:=eO qh4 WX
def Wq:Pr:=⟨153,[],(.sl false [(.str ⟨⟨[98,101,103,105,110]⟩⟩),(.str ⟨⟨[101,110,100]⟩⟩),(.str ⟨⟨[105,102]⟩⟩),(.str ⟨⟨[116,104,101,110]⟩⟩),(.str ⟨⟨[101,108,115,101]⟩⟩),(.str ⟨⟨[102,111,114]⟩⟩),(.str ⟨⟨[100,111]⟩⟩),(.str ⟨⟨[115,116,101,112]⟩⟩),(.str ⟨⟨[117,110,116,105,108]⟩⟩),(.str ⟨⟨[119,104,105,108,101]⟩⟩),(.str ⟨⟨[103,111,116,111]⟩⟩),(.str ⟨⟨[111,119,110]⟩⟩),(.str ⟨⟨[105,110,116,101,103,101,114]⟩⟩),(.str ⟨⟨[114,101,97,108]⟩⟩),(.str ⟨⟨[98,111,111,108,101,97,110]⟩⟩),(.str ⟨⟨[97,114,114,97,121]⟩⟩),(.str ⟨⟨[115,119,105,116,99,104]⟩⟩),(.str ⟨⟨[112,114,111,99,101,100,117,114,101]⟩⟩),(.str ⟨⟨[118,97,108,117,101]⟩⟩),(.str ⟨⟨[108,97,98,101,108]⟩⟩),(.str ⟨⟨[115,116,114,105,110,103]⟩⟩),(.str ⟨⟨[116,114,117,101]⟩⟩),(.str ⟨⟨[102,97,108,115,101]⟩⟩),(.str ⟨⟨[99,111,109,109,101,110,116]⟩⟩),(.str ⟨⟨[110,111,116]⟩⟩),(.str ⟨⟨[97,110,100]⟩⟩),(.str ⟨⟨[111,114]⟩⟩),(.str ⟨⟨[105,109,112]⟩⟩),(.str ⟨⟨[101,113,118]⟩⟩)])⟩
theorem WE:Wq.ok prog:=Pr.run (eF Xn) 200 (by decide+kernel)
def Xo:List Pr:=Wq::WY
theorem XK:∀p,p∈Xo->p.ok prog:=eO WE Xn
def WG:Pr:=⟨57,[(.str ⟨⟨[120]⟩⟩)],(.bool true)⟩
theorem qim:WG.ok prog:=Pr.run (eF XK) 200 (by decide+kernel)
def XL:List Pr:=WG::Xo
theorem XY:∀p,p∈XL->p.ok prog:=eO qim XK
def WQ:Pr:=⟨57,[(.str ⟨⟨[121]⟩⟩)],(.bool true)⟩
theorem qin:WQ.ok prog:=Pr.run (eF XY) 200 (by decide+kernel)
def XZ:List Pr:=WQ::XL
theorem X0:∀p,p∈XZ->p.ok prog:=eO qin XY
def WR:Pr:=⟨57,[(.str ⟨⟨[108]⟩⟩)],(.bool true)⟩
theorem qio:WR.ok prog:=Pr.run (eF X0) 200 (by decide+kernel)
def X5:List Pr:=WR::XZ
theorem X6:∀p,p∈X5->p.ok prog:=eO qio X0
def WS:Pr:=⟨57,[(.str ⟨⟨[122]⟩⟩)],(.bool true)⟩
theorem qip:WS.ok prog:=Pr.run (eF X6) 200 (by decide+kernel)
def X7:List Pr:=WS::X5
theorem X8:∀p,p∈X7->p.ok prog:=eO qip X6
def eN(s:Bz)(l:List Bz):Bool:=l.any fun x=>decide (x=s)
def jv{s:Bz}{l:List Bz}:eN s l=true↔s∈l:=by simp[eN]
def se{s:Bz}{l:List Bz}:eN s l=false↔s∉l:=by rw[<-jv];simp
def qkw(b:Bool)(l:List Bz)(s:Bz)(S:St)(hl:l.length<=1000000):Fn prog 152 [.sl b (l.map .str),.str s] S (.bool (eN s l)):=by
 refine au.ib OH ?_;simp[OH];refine aU (qkO b l s S hl) ?_;rintro v S' ⟨⟨i,rfl,hi⟩,rfl⟩;simp;exact aS rfl ⟨by simp only[aK,V.bool.injEq];rw[dq,jv,<-hi];simp,rfl⟩
def qkx(S:St):Fn prog 153 [] S (.sl false (m9.map .str)):=by
 rw[qai];exact WE S
def qkd(s:Bz)(S:St):Fn prog 103 [.str s] S (.bool (eN s m9)):=by
 refine au.ib N8 ?_;simp[N8];refine aG (qkx S) ?_;refine aG (qkw false m9 s S (by rw[qah];omega)) ?_;exact aS rfl ⟨rfl,rfl⟩
def qkk(b:Bool)(l:List Bz)(s:Bz)(S:St)(hl:l.length<=1000000):Fn prog 114 [.str s,.sl b (l.map .str)] S (.bool (eN s l)):=by
 refine au.ib Om ?_;simp[Om];refine bN (fun n e S'=>∃i:Nat,n=l.length - i∧i≤l.length∧(∀j,(h:j<l.length)→j<i→l[j]≠s)∧S'=S∧
  e=[(5,.int .i64 i),(4,.bool false),(0,.str s),(1,.sl b (l.map .str))]) l.length _ ?_ ⟨0,by simp,by omega,by omega,rfl,rfl⟩ ?_
 .exact aN
 rintro n e S' ⟨i,rfl,hi,hno,rfl,rfl⟩;by_cases h:i<l.length
 .by_cases he:l[i]=s
  .simp[h,jb,he];exact aS rfl ⟨by rw[jv.2 (by rw[<-he];exact cI h)];rfl,rfl⟩
  .simp[h,jb,he,bP i];refine⟨_,?_,_,?_,i+1,rfl,by omega,fun j hj hji=>?_,rfl⟩
   .omega
   .exact aN
   .by_cases hj':j=i
    .subst hj';exact he
    .exact hno j hj oM
 .simp[h];refine aS rfl ⟨?_,rfl⟩;rw[se.2]
  .rfl
  intro hs;obtain⟨j,hj,rfl⟩:=pH hs;exact hno j hj oM rfl
def qlp(b:Bool)(l:List Bz)(s:Bz)(S:St)(hl:l.length<=1000000):Fn prog 34 [.sl b (l.map .str),.str s] S (.bool (eN s l)):=by
 refine au.ib Ep ?_;simp[Ep];refine bN (fun n e S'=>∃i:Nat,n=l.length - i∧i≤l.length∧(∀j,(h:j<l.length)→j<i→l[j]≠s)∧S'=S∧
  e=[(5,.int .i64 i),(4,.bool false),(0,.sl b (l.map .str)),(1,.str s)]) l.length _ ?_ ⟨0,by simp,by omega,by omega,rfl,rfl⟩ ?_
 .exact aN
 rintro n e S' ⟨i,rfl,hi,hno,rfl,rfl⟩;by_cases h:i<l.length
 .by_cases he:l[i]=s
  .simp[h,jb,he];exact aS rfl ⟨by rw[jv.2 (by rw[<-he];exact cI h)];rfl,rfl⟩
  .simp[h,jb,he,bP i];refine⟨_,?_,_,?_,i+1,rfl,by omega,fun j hj hji=>?_,rfl⟩
   .omega
   .exact aN
   .by_cases hj':j=i
    .subst hj';exact he
    .exact hno j hj oM
 .simp[h];refine aS rfl ⟨?_,rfl⟩;rw[se.2]
  .rfl
  intro hs;obtain⟨j,hj,rfl⟩:=pH hs;exact hno j hj oM rfl
def qlB(s:Bz)(S:St):Fn prog 65 [.str s] S (.bool (eN s m9)):=by
 refine au.ib Qj ?_;simp[Qj];refine aG (qkl S) ?_;refine aG (qkk true m9 s S (by rw[qah];omega)) ?_;exact aS rfl ⟨rfl,rfl⟩
def mQ(b:UInt8):Bool:=kz b.toNat||nK b.toNat
def rK(l:List UInt8):Bool:=l.all mQ
def EV{l:List UInt8}:rK l=true↔∀i,(h:i<l.length)->mQ l[i]=true:=by
 unfold rK;rw[d6];exact⟨fun hh i h=>hh _ (cI h),fun hh x hx=>by obtain⟨i,h,rfl⟩:=pH hx;exact hh i h⟩
def uY(b:UInt8):V:=.int .u8 b.toNat
def qfB{l:List UInt8}{i:Nat}(h:i<l.length)(b:Bool)(S:St):eJ S 1 (.sl b (l.map uY)) i=some (.bG (uY l[i]) 0):=by simp[eJ,h,V.size,V.cells,uY]
theorem qgb(s:UInt8)(S:St):ae S (.bG (uY s) 0) none=some (uY s):=rfl
def qky(b:Bool)(l:List UInt8)(S:St)(hl:l.length<=1000000):au prog 154 [.sl b (l.map uY),.fn (.func 105) [] []] S (fun v U=>(∃i:Int,v=.int .i64 i/\(0<=i↔rK l=false))/\U=S):=by
 refine au.ib OI ?_;simp[OI];refine bN (fun n e S'=>∃i:Nat,n=l.length - i∧i≤l.length∧(∀j,(h:j<l.length)→j<i→mQ l[j]=true)∧S'=S∧
  e=[(8,.int .i64 i),(7,.int .i64 l.length),(4,.int .i64 0),(0,.sl b (l.map uY)),(1,.fn (.func 105) [] [])]) l.length _ ?_ ⟨0,by simp,by omega,by omega,rfl,rfl⟩ ?_
 .exact aN
 rintro n e S' ⟨i,rfl,hi,hno,rfl,rfl⟩;by_cases h:i<l.length
 .simp[h,qfB,qgb];refine aG (qkf _ S') ?_;by_cases he:mQ l[i]=true
  .rw[show(kz l[i].toNat||nK l[i].toNat)=true from he];simp[bP i];refine⟨_,?_,_,?_,i+1,rfl,by omega,fun j hj hji=>?_,rfl⟩
   .omega
   .exact aN
   .by_cases hj':j=i
    .subst hj';exact he
    .exact hno j hj oM
  .have he':mQ l[i]=false:=by simpa using he
   rw[show(kz l[i].toNat||nK l[i].toNat)=false from he'];simp;refine aS rfl ⟨⟨i,rfl,?_⟩,rfl⟩;rw[<-tu,EV];exact⟨fun _ hh=>he (hh i h),fun _=>by omega⟩
 .simp[h];refine aS rfl ⟨⟨-1,rfl,?_⟩,rfl⟩;rw[<-tu,EV];exact⟨fun hh=>by omega,fun hh=>absurd (fun j hj=>hno j hj oM) hh⟩
def qke(b:Bool)(l:List UInt8)(S:St)(hl:l.length<=1000000):Fn prog 104 [.sl b (l.map uY),.fn (.func 105) [] []] S (.bool (!rK l)):=by
 refine au.ib N9 ?_;simp[N9];refine aU (qky b l S hl) ?_;rintro v S' ⟨⟨i,rfl,hi⟩,rfl⟩;simp;refine aS rfl ⟨?_,rfl⟩;simp only[aK,hi];cases rK l<;>simp
def qlC(s:Bz)(S:St)(hl:s.size<=1000000):au prog 66 [.str s,.int .i64 0] S (fun v U=>(∃i:Int,v=.int .i64 i/\(i=s.size↔rK s.data.toList=true))/\U=S):=by
 have hsz:s.data.toList.length=s.size:=by simp
 refine au.ib Qk ?_;simp[Qk];refine bN (fun n e S'=>∃i:Nat,n=s.size - i∧i≤s.size∧(∀j,(h:j<s.size)→j<i→mQ (s.data[j]'h)=true)∧S'=S∧
  e=[(1,.int .i64 i),(4,.int .i64 0),(0,.str s)]) s.size _ ?_ ⟨0,by simp,by omega,by omega,rfl,rfl⟩ ?_
 .exact aN
 rintro n e S' ⟨i,rfl,hi,hno,rfl,rfl⟩;by_cases h:i<s.size
 .have hi64:=bP i
  have hgo:∀(hn:mQ s.data[i]=true) (j:Nat) (hj:j<s.size),j<i+1->mQ (s.data[j]'hj)=true:=fun hn j hj hji=>by
   by_cases hj':j=i
   .subst hj';exact hn
   .exact hno j hj oM
  simp[h,Cc h];refine aG (ZI _ S') ?_
  cases hL:kz (s.data[i]'h).toNat with
  |true=>
   simp[hi64];refine⟨_,?_,_,?_,i+1,rfl,by omega,?_,rfl⟩
   .omega
   .exact aN
   .have:=hgo (by simp only[mQ,hL,Bool.true_or]);simpa using this
  |false=>
   simp[h,Cc h];refine aG (qkm _ S') ?_
   cases hD:nK (s.data[i]'h).toNat with
   |true=>
    simp[hi64];refine⟨_,?_,_,?_,i+1,rfl,by omega,?_,rfl⟩
    .omega
    .exact aN
    .have:=hgo (by simp only[mQ,hD,Bool.or_true]);simpa using this
   |false=>
    simp;refine aS rfl ⟨⟨i,rfl,?_⟩,rfl⟩;constructor
    .intro hh;omega
    .intro hh;rw[EV]at hh;have:=hh i oM;rw[Array.getElem_toList]at this;simp only[mQ,hL,hD]at this;cases this
 .simp[h];refine aS rfl ⟨⟨i,rfl,?_⟩,rfl⟩;constructor
  .intro _;rw[EV];intro j hj;have:=hno j oM oM;simpa using this
  .intro _;omega
def FZ:List UInt8->Bool
 |[]=>false
 |c::_=>kz c.toNat
def ar(s:Bz):Bool:=decide (1<=s.size)&&decide (s.size<=16)&&FZ s.data.toList&&!eN s m9&&rK s.data.toList
def Hw{s:Bz}:s=⟨⟨[]⟩⟩↔s.size=0:=by
 constructor
 .rintro rfl;rfl
 .intro h;refine pE ?_;exact Array.eq_empty_of_size_eq_zero h
def VH{s:Bz}(h1:0<s.size)(h2:s.size<=16):ar s=(kz (s.data[0]'h1).toNat&&!eN s m9&&rK s.data.toList):=by
 unfold ar;rw[jC (show 1<=s.size from h1),jC h2];have h1':0<s.data.toList.length:=by simpa using h1
 have:∀(l:List UInt8) (h:0<l.length),FZ l=kz (l[0]).toNat:=fun l h=>by
  cases l with
  |nil=>cases h
  |cons c cs=>rfl
 rw[this _ h1',Array.getElem_toList];rfl
def DR(s:Bz)(S:St):Fn prog 57 [.str s] S (.bool (ar s)):=by
 refine au.ib Es ?_;by_cases h0:s.size=0
 .have h0':=Hw.2 h0;simp[Es,h0'];exact aS rfl ⟨rfl,rfl⟩
 have h0':¬s=⟨⟨[]⟩⟩:=fun hh=>h0 (Hw.1 hh)
 by_cases h1:(16:Int)<s.size
 .simp[Es,h0',h1];refine aS rfl ⟨?_,rfl⟩;simp[ar];omega
 have hi:=UH (s:=s) oM;simp[Es,h0',h1,hi];refine aG (Zh _ S) ?_;have hn:=VH (s:=s) oM oM
 cases hL:kz (s.data[0]'(Nat.pos_of_ne_zero h0)).toNat with
 |false=>
  simp;refine aS rfl ⟨?_,rfl⟩;rw[hn,hL];rfl
 |true=>
  simp;refine aG (qkd s S) ?_
  cases hW:eN s m9 with
  |true=>
   simp;refine aS rfl ⟨?_,rfl⟩;rw[hn,hL,hW];rfl
  |false=>
   simp[aZ,Jo];refine aG (qke false s.data.toList S (by rw[pB];have:s.data.size=s.size:=rfl;omega)) ?_;simp;refine aS rfl ⟨?_,rfl⟩;rw[hn,hL,hW];simp
def nX(s:Bz)(S:St):Fn prog 21 [.str s] S (.bool (ar s)):=by
 refine au.ib Em ?_;by_cases h0:s.size=0
 .simp[Em,h0];refine aS rfl ⟨?_,rfl⟩;simp[ar,h0]
 by_cases h1:(16:Int)<s.size
 .simp[Em,h0,h1,show ¬((s.size:Int)<1) by omega];refine aS rfl ⟨?_,rfl⟩;simp[ar];omega
 have hi:=UH (s:=s) oM;simp[Em,h0,h1,hi,show ¬((s.size:Int)<1) by omega];refine aG (ZI _ S) ?_;have hn:=VH (s:=s) oM oM
 cases hL:kz (s.data[0]'(Nat.pos_of_ne_zero h0)).toNat with
 |false=>
  simp;refine aS rfl ⟨?_,rfl⟩;rw[hn,hL];rfl
 |true=>
  simp;refine aG (qlB s S) ?_
  cases hW:eN s m9 with
  |true=>
   simp;refine aS rfl ⟨?_,rfl⟩;rw[hn,hL,hW];rfl
  |false=>
   simp;refine aU (qlC s S oM) ?_;rintro v S' ⟨⟨i,rfl,hi'⟩,rfl⟩;simp;refine aS rfl ⟨?_,rfl⟩;rw[hn,hL,hW];simp only[aK,V.bool.injEq,l8,Am];rw[dq,<-hi'];simp
def Ns{a b:Bz}(h:a.size+b.size<=1000000):nY .add a b=some (.str (a++b)):=by
 simp only[nY];rw[ai];rw[show IntKind.i64.max=9223372036854775807 by rfl];omega
theorem Sl(x:Bool)(n:Int)(S:St):yA S (.sl x [.int .u8 n])=some (.str ⟨[UInt8.ofNat n.toNat].toArray⟩):=rfl
def qbP(a b:List UInt8):(⟨a.toArray⟩:Bz)++(⟨b.toArray⟩:Bz)=⟨(a++b).toArray⟩:=by
 apply pE;apply qz;simp
def qmP{n:Int}(h0:0<=n)(h1:n<256):IntKind.u8.wrap n=n:=by
 simp[IntKind.wrap,IntKind.bits,IntKind.signed];omega
def FC(n:Nat)(h:n<1000):(fk n).length<=4:=(Js oM).2
def qcB(m:Nat):IntKind.u8.wrap (IntKind.i64.wrap (48+((m:Int)).tmod 10))=((48+m%10:Nat):Int):=by
 have:((m:Int)).tmod 10=((m%10:Nat):Int):=by
  rw[Int.tmod_eq_emod_of_nonneg oM];omega
 rw[this,dP oM oM,qmP oM oM];omega
def wn(n:Nat):UInt8:=UInt8.ofNat (48+n%10)
def SI(m:Nat):UInt8.ofNat (IntKind.u8.wrap (IntKind.i64.wrap (48+((m:Int)).tmod 10))).toNat=wn m:=by rw[qcB];rfl
def SJ{n:Nat}(h:n<10):[wn n]=fk n:=by rw[rO h];unfold wn;rw[AO h]
def SK{n:Nat}(h:¬n<10):fk (n/10)++[wn n]=fk n:=(rP h).symm
def qcE(m:Nat)(h:m<1000000):IntKind.i64.wrap ((m:Int)/10)=((m/10:Nat):Int):=by
 rw[dP oM oM];omega
def qbO(b:UInt8)(a:List UInt8):(⟨#[b]⟩:Bz)++(⟨a.toArray⟩:Bz)=⟨(b::a).toArray⟩:=qbP [b] a
def qlK(n:Nat)(hn:n<1000)(S:St):Fn prog 94 [.int .i64 n] S (.str ⟨(fk n).toArray⟩):=by
 refine au.ib QA ?_;simp[QA,V.size,V.cells,V.flat,fits,aZ,Sl];rw[SI];refine bN (fun k e S'=>∃(m:Nat) (acc:List UInt8),k=m∧m≤n∧acc.length≤4∧(if m<10 then acc=fk n else fk (m / 10)++acc=fk n)∧S'=S∧
  e=[(0,.int .i64 m),(3,.str ⟨acc.toArray⟩),(2,.str ⟨⟨[]⟩⟩)]) n [(0,.int .i64 n),(3,.str ⟨[wn n].toArray⟩),(2,.str ⟨⟨[]⟩⟩)] ?_ ⟨n,[wn n],rfl,by omega,by simp,?_,rfl,rfl⟩ ?_
 .exact aN
 .split
  .rename_i h;exact SJ h
  .rename_i h;exact SK h
 rintro m e S' ⟨_,acc,rfl,hm,hal,ha,rfl,rfl⟩;by_cases h:m<10
 .rw[ai h]at ha;subst ha;simp[show ¬((9:Int)<(m:Int)) by omega];exact aS rfl ⟨rfl,rfl⟩
 .rw[aj h]at ha
  have hacc:acc.length+1<=4:=by
   have h1:=congrArg List.length ha;rw[cJ]at h1;have h2:=FC n hn;have h3:=(Js (n:=m/10) oM).1;omega
  simp[show((9:Int)<(m:Int)) by omega,V.size,V.cells,V.flat,fits,aZ,Sl];rw[qcE m oM,SI,Ns (by simp[ByteArray.size];omega),qbO];simp;refine⟨m/10,?_,_,?_,by omega,wn (m/10)::acc,by simpa using hacc,?_,rfl⟩
  .omega
  .exact aN
  .split
   .rename_i h';rw[<-ha,<-SJ h'];rfl
   .rename_i h';rw[<-ha,<-SK h'];simp
def gg(s:Bz)(taken:List Bz)(t:Bz):Prop:=
 (s∉taken/\t=s)\/(s∈taken/\∃n,1<=n/\t=fF s n/\fF s n∉taken/\∀i,1<=i->i<n->fF s i∈taken)
def gg.unique{s:Bz}{taken:List Bz}{t u:Bz}(h:gg s taken t)(g:gg s taken u):t=u:=by
 rcases h with ⟨h1,rfl⟩|⟨h1,n,hn,rfl,hf,ha⟩<;>rcases g with ⟨g1,rfl⟩|⟨g1,m,hm,rfl,gf,gb⟩
 .rfl
 .exact absurd g1 h1
 .exact absurd h1 g1
 .have h2:¬n<m:=fun hlt=>hf (gb n hn hlt)
  have h3:¬m<n:=fun hlt=>gf (ha m hm hlt)
  rw[show n=m by omega]
def YZ{s:Bz}{k:Nat}(hk:k<=s.size)(S:St):gX S 0 (.str s) none (some (k:Int))=some (.str (s.extract 0 k)):=by
 simp[gX,hk]
def RO(s:Bz)(n:Nat):s.extract 0 (min s.size (16-(fk n).length))++(⟨(fk n).toArray⟩:Bz)=fF s n:=by
 apply pE;apply qz;simp[fF]
def HI(m:Nat):(⟨(fk m).toArray⟩:Bz).size=(fk m).length:=by simp[ByteArray.size]
def Vy(a d:Nat)(hd:d<=4):(if IntKind.i64.wrap (16-(d:Int))<(a:Int) then IntKind.i64.wrap (16-(d:Int)) else(a:Int))=((min a (16-d):Nat):Int):=by
 rw[dP oM oM];split<;>omega
def kv(s:Bz):V×V:=(.str s,.bool true)
def Lx(s:Bz):∀(ks:List Bz) (i:Nat),(s∉ks/\jF .str (.str s) (ks.map kv) i=some none)\/(s∈ks/\∃j:Nat,ks[j]?=some s/\jF .str (.str s) (ks.map kv) i=some (some (i+j,.bool true)))
 |[],i=>.inl ⟨by simp,rfl⟩
 |k::ks,i=>by
  simp only[b9,kv,jF,nN];by_cases h:s=k
  .subst h;refine .inr ⟨by simp,0,rfl,?_⟩;simp
  .have hne:(s.data.toList==k.data.toList)=false:=by
    rw[beq_eq_false_iff_ne];intro hh;exact h (pE (qz hh))
   rw[hne];simp only;rcases Lx s ks (i+1) with ⟨h1,h2⟩|⟨h1,j,h2,h3⟩
   .exact .inl ⟨by simp[h,h1],h2⟩
   .refine .inr ⟨by simp[h1],j+1,by simpa using h2,?_⟩;rw[show i+(j+1)=i+1+j by omega];exact h3
def dQ(ks:List Bz)(s:Bz):List Bz:=if eN s ks=true then ks else ks++[s]
def qfH{ks:List Bz}{s x:Bz}:x∈dQ ks s↔x∈ks\/x=s:=by
 unfold dQ;split
 .exact⟨.inl,fun hh=>hh.elim id fun hh=>by rw[hh];exact jv.1 (by assumption)⟩
 .simp
def qa{x:Bz}:∀{l ks:List Bz},x∈l.foldl dQ ks↔x∈ks\/x∈l
 |[],ks=>by simp
 |s::l,ks=>by rw[vJ,qa,qfH,cX,or_assoc]
def fu(bs:List Nat)(ck:Nat):Prop:=(∀b,b∈bs->b<ck)/\bs.Nodup
def fu.nil:fu [] 0:=⟨by simp,vR⟩
def fu.snoc{bs:List Nat}{ck:Nat}(h:fu bs ck):fu (bs++[ck]) (ck+1):=⟨fun b hb=>by
 rcases cC.1 hb with hb|hb
 .have:=h.1 b hb;omega
 .simp at hb;omega,vQ.2 ⟨h.2,by simp,fun a ha b hb=>by simp at hb;subst hb;have:=h.1 a ha;omega⟩⟩
def qgQ{S:St}{l:Nat}{ks:List Bz}{bs:List Nat}{ck:Nat}(s:Bz)(h:S[l]?=some (.map (ks.map kv) bs ck)):
  ∃(bs':List Nat) (gG:Nat),kE S .str (.map l) (.str s) (.bool true)=some (S.set l (.map ((dQ ks s).map kv) bs' gG))/\(fu bs ck->fu bs' gG)/\(bs.length=ks.length->bs'.length=(dQ ks s).length):=by
 unfold kE;rw[ai (by rfl)];simp only[h];unfold dQ;rcases Lx s ks 0 with ⟨h1,h2⟩|⟨h1,j,h2,h3⟩
 .rw[h2,aj (fun hh=>h1 (jv.1 hh))];exact⟨bs++[ck],ck+1,by simp[kv],fu.snoc,fun h=>by simp[h]⟩
 .rw[h3,ai (jv.2 h1)];refine⟨bs,ck,?_,id,id⟩;simp only[iQ]
  have:(ks.map kv).set j (.str s,.bool true)=ks.map kv:=by
   apply ou;intro i;rw[EE];split
   .rename_i hij;subst hij;have:=(aT.1 h2).1;have h4:=(aT.1 h2).2;simp[kv,this,h4]
   .rfl
  rw[this]
def Lm{S:St}{l:Nat}{ks:List Bz}{bs:List Nat}{ck:Nat}(s:Bz)(h:S[l]?=some (.map (ks.map kv) bs ck)):mA S .str (.bool false) false (.map l) (.str s)=some (.bool (eN s ks)):=by
 unfold mA;rw[ai (by rfl)];simp only[uk,h];rcases Lx s ks 0 with ⟨h1,h2⟩|⟨h1,j,h2,h3⟩
 .rw[h2,se.2 h1];rfl
 .rw[h3,jv.2 h1];rfl
def YR{α:Type}{l:List α}{i:Nat}{x:α}(h:l[i]?=some x):l.set i x=l:=by
 apply ou;intro j;rw[EE];split
 .rename_i hij;subst hij;rw[h];have:=(aT.1 h).1;simp[this]
 .rfl
def ZK(b:Bool)(taken ks:List Bz)(bs:List Nat)(ck:Nat)(l:Nat)(S:St)(ht:taken.length<=1000000)(hl:S[l]?=some (.map (ks.map kv) bs ck)):
  au prog 79 [.map l,.sl b (taken.map .str)] S (fun v U=>∃(bs':List Nat) (gG:Nat),(fu bs ck->fu bs' gG)/\(bs.length=ks.length->bs'.length=(taken.foldl dQ ks).length)/\U=S.set l (.map ((taken.foldl dQ ks).map kv) bs' gG)):=by
 have hlt:l<S.length:=(aT.1 hl).1;refine au.ib Qp ?_;simp[Qp];refine bN (fun k e S'=>∃i:Nat,k=taken.length - i∧i≤taken.length∧(∃(bs':List Nat) (gG:Nat),(fu bs ck→fu bs' gG)∧(bs.length=ks.length→bs'.length=((taken.take i).foldl dQ ks).length)∧S'=S.set l (.map (((taken.take i).foldl dQ ks).map kv) bs' gG))∧
  e=[(8,.int .i64 i),(7,.int .i64 taken.length),(6,.sl b (taken.map .str)),(0,.map l),(1,.sl b (taken.map .str))]) taken.length _ ?_ ⟨0,by simp,by omega,⟨bs,ck,id,by simp,?_⟩,rfl⟩ ?_
 .exact aN
 .exact(YR hl).symm
 rintro k e S' ⟨i,rfl,hi,⟨RI,ck1,hst,hln,rfl⟩,rfl⟩;by_cases h:i<taken.length
 .obtain⟨bs',gG,hm,hst',Kr⟩:=qgQ (S:=S.set l (.map (((taken.take i).foldl dQ ks).map kv) RI ck1)) (l:=l) taken[i] (bJ hlt);rw[List.set_set]at hm;simp[h,jb,aZ,hm];refine⟨_,?_,_,?_,i+1,rfl,by omega,⟨bs',gG,fun h=>hst' (hst h),fun h0=>?_,?_⟩,rfl⟩
  .omega
  .rw[dP oM oM];exact aN
  .rw[cY,bI h,gZ,pG];exact Kr (hln h0)
  .rw[cY,bI h,gZ,pG];rfl
 .simp[h];rw[iP oM]at hln;refine i9 rfl ⟨RI,ck1,hst,hln,?_⟩;rw[iP oM]
def ZJ(b:Bool)(taken ks:List Bz)(bs:List Nat)(ck:Nat)(l:Nat)(S:St)(ht:taken.length<=1000000)(hl:S[l]?=some (.map (ks.map kv) bs ck)):
  au prog 79 [.map l,.sl b (taken.map .str)] S (fun v U=>∃(bs':List Nat) (gG:Nat),(fu bs ck->fu bs' gG)/\U=S.set l (.map ((taken.foldl dQ ks).map kv) bs' gG)):=
 au.mono (ZK b taken ks bs ck l S ht hl) fun _ _ ⟨a,c,d,_,e⟩=>⟨a,c,d,e⟩
end Go.Proofs.YtbifpocccfkhhaaGreatDoor
end
