/- A part. -/
import Derived.Test.YtbifpocccfkhhaaGreatDoorYd
import Derived.KernelRfl
set_option linter.all false
noncomputable section
namespace Go.Proofs.YtbifpocccfkhhaaGreatDoor
open Go Go.Proofs.Tryz
set_option maxHeartbeats 0
set_option maxRecDepth 100000
def tS:(∀h,(prog.types[3]'h).size=1)/\(∀h,(prog.types[4]'h).size=1)/\(∀h,(prog.types[5]'h).size=1)/\(∀h,(prog.types[9]'h).size=1)/\(∀h,(prog.types[22]'h).size=1)/\(∀h,(prog.types[23]'h).size=1)/\(∀h,(prog.types[24]'h).size=1)/\(∀h,(prog.types[25]'h).size=1)/\(∀h,(prog.types[26]'h).size=1)/\(∀h,(prog.types[28]'h).size=8)/\(∀h,(prog.types[40]'h).size=1)/\(∀h,(prog.types[42]'h).size=7)/\(∀h,(prog.types[52]'h).size=2)/\(∀h,(prog.types[54]'h).size=7)/\(∀h,(prog.types[87]'h).size=4)/\(∀h,(prog.types[89]'h).size=1)/\(∀h,(prog.types[90]'h).size=1)/\(∀h,(prog.types[93]'h).size=1)/\(∀h,(prog.types[94]'h).size=1)/\(∀h,(prog.types[96]'h).size=1)/\(∀h,(prog.types[98]'h).size=1)/\(∀h,(prog.types[99]'h).size=1)/\(∀h,(prog.types[135]'h).size=2)/\(∀h,(prog.types[138]'h).size=25)/\(∀h,(prog.types[142]'h).size=1)/\(∀h,(prog.types[144]'h).size=1)/\(∀h,(prog.types[145]'h).size=1)/\(∀h,(prog.types[179]'h).size=1)/\(∀h,(prog.types[195]'h).size=2)/\(∀h,(prog.types[196]'h).size=1)/\(∀h,(prog.types[224]'h).size=2)/\(∀h,(prog.types[9]'h).bytes=16)/\(∀h,(prog.types[28]'h).bytes=168)/\(∀h,(prog.types[42]'h).bytes=120)/\(∀h,(prog.types[54]'h).bytes=80)/\(∀h,(prog.types[87]'h).bytes=40)/\(∀h,(prog.types[94]'h).bytes=8)/\(∀h,(prog.types[135]'h).bytes=32)/\(∀h,(prog.types[138]'h).bytes=408)/\(∀h,(prog.types[195]'h).bytes=24):=by
 repeat' apply And.intro
 all_goals (intro h;kernel_rfl)
theorem qy1(l:List UInt8):yQ (.string ⟨List.toArray l⟩)=.str ⟨⟨l⟩⟩:=rfl
def aW{k:FuncId}{f:Func}{c:F'}(g:prog.funcs[k]?=some f)(h:∀Q:Option F'->Prop,Q (some c)->Q (ra prog f):=by(intro Q q;(with_unfolding_all conv=>arg 1;whnf);simp only[List.reverse,List.reverseAux,qy1,List.getElem_toArray,List.getElem_cons_zero,List.getElem_cons_succ,KO,gq,qy,Nat.reduceSub,tS,yQ,OM,Nat.reduceAdd,mg,List.map,shift,dR,ig];exact q)):CF prog k f:=⟨c,g,h (·=some c) rfl⟩
@[simp] theorem fW{k:FuncId}{f:Func}{c:F'}(g:prog.funcs[k]?=some f)(h:∀Q:Option F'->Prop,Q (some c)->Q (ra prog f)):(aW g h).c=c:=rfl
abbrev GZ(f:Func)(c:F'):Prop:=ra prog f=some c
def JF{f:Func}{c:F'}(h:ra prog f=some c:=by kernel_rfl):GZ f c:=h
noncomputable def cmp(f:Func):F':=(ra prog f).getD ⟨0,[],.skip⟩
noncomputable def C23:=aW func23
noncomputable def yU:=aW func27
noncomputable def C56:=aW func56
noncomputable def O4:=aW func57
noncomputable def C58:=aW func58
noncomputable def C60:=aW func60
noncomputable def C62:=aW func62
noncomputable def C68:=aW func68
noncomputable def C73:=aW func73
noncomputable def C74:=aW func74
noncomputable def C75:=aW func75
noncomputable def C76:=aW func76
noncomputable def C77:=aW func77
noncomputable def C78:=aW func78
noncomputable def C79:=aW func79
noncomputable def C80:=aW func80
noncomputable def C81:=aW func81
noncomputable def C82:=aW func82
noncomputable def C90:=aW func90
noncomputable def C95:=aW func95
noncomputable def C96:=aW func96
noncomputable def C97:=aW func97
noncomputable def qar:=aW func100
noncomputable def TD:=aW func101
noncomputable def qas:=aW func102
noncomputable def qat:=aW func103
noncomputable def qau:=aW func104
noncomputable def qav:=aW func105
noncomputable def qaw:=aW func106
noncomputable def qax:=aW func107
noncomputable def TF:=aW func108
noncomputable def qay:=aW func109
noncomputable def qaA:=aW func111
noncomputable def TG:=aW func113
noncomputable def qaG:=aW func118
noncomputable def c129:F':=cmp f129
def ok129:GZ f129 c129:=JF
noncomputable def qaH:=aW func130
noncomputable def qaI:=aW func131
noncomputable def qaJ:=aW func132
noncomputable def qaK:=aW func133
noncomputable def qaL:=aW func134
noncomputable def qaM:=aW func138
noncomputable def TK:=aW func142
noncomputable def O0:=aW func146
noncomputable def qaQ:=aW func147
noncomputable def qaS:=aW func149
noncomputable def TL:=aW func150
noncomputable def c151:F':=⟨35,[.cell 2 none],.k [.B 1 0,.o 2 (.new (.bool false))] (.k [.F 3] (.seq (.k [.f 5 0 1,.l 6 5] (.block 0 (.k [.u 8 .eql 6 4,.m 7 8] (.d 7 (.reg [.f 9 18 1,.j 10 7 9,.c 11 180 10,.m 3 11]) (.k [.u 13 .eql 6 3,.m 12 13] (.d 12 (.reg [.f 14 16 1,.j 15 2 14,.c 16 181 15,.m 3 16]) (.k [.u 18 .eql 6 2,.m 17 18] (.d 17 (.reg [.f 19 9 1,.j 20 7 19,.c 21 182 20,.m 3 21]) (.k [.u 23 .eql 6 1,.m 22 23] (.d 22 (.reg [.f 24 1 1,.j 25 8 24,.c 26 183 25,.m 3 26]) .skip)))))))))) (.seq (.k [.m 27 3,.o 28 (.un .not (.t 27))] (.d 28 (.k [.n (.oV 1 (.t 2) (.c (.bool false)))] .ret) .skip)) (.seq (.k [.j 29 25 1,.c 30 179 29] (.block 1 (.rf (.t 30) [31] (fK f151 0).1 (fK f151 0).2 (.reg [.o 4 (.new zP),.s 25 4 31]) (.block 2 (.k [.j 32 25 4,.c 33 151 32,.o 34 (.un .not (.t 33))] (.d 34 (.k [.n (.oV 1 (.t 2) (.c (.bool false)))] .ret) .skip)))
 35 [31,4,32,33,34,2]))) (.k [.n (.oV 1 (.t 2) (.c (.bool true)))] .ret)))))⟩
def ok151:GZ f151 c151:=JF
noncomputable def qaT:=aW func152
noncomputable def qaU:=aW func154
noncomputable def qaV:=aW func155
noncomputable def qaW:=aW func156
noncomputable def c157:F':=⟨63,[.t 6],.k [.B 3 0,.a 6 .cu] (.k [.m 12 1,.o 13 (.ex (.wrap 1 (.t 12))),.B 14 13,.o 15 (.ex (.Bm)),.o 16 (.build (.agg [.cu,.dI]) [(0,0,1,(.t 14)),(1,1,1,(.t 15))]),.B 17 16,.o 7 (.new .cu),.s 1 7 17] (.seq (.k [.m 18 2] (.block 0 (.rf (.t 18) [19] (fK f157 0).1 (fK f157 0).2 (.reg [.m 8 19]) (.block 1 (.seq (.k [.l 21 7,.h 22 21,.f 23 1 22,.l 24 23,.m 25 8,.o 26 (.ex (.GO .str .cu true (.t 24) (.t 25))),.m 20 26,.e 27 0 20,.e 28 1 20,.m 9 27,.m 10 28] (.k [.m 29 10] (.d 29 (.exit 1) .skip))) (.k [.l 30 3,.h 31 30,.f 32 0 31,.l 33 32,.m 34 8,.m 35 8,.o 36 (.build (.agg [(.int .i64 0),(.str ⟨⟨[]⟩⟩),(.str ⟨⟨[]⟩⟩)]) [(0,0,1,(.t 33)),(1,1,1,(.t 34)),(2,2,1,(.t 35))]),.B 37 36,.m 11 37] (.k [.l 38 3,.h 39 38,.f 40 0 39,.l 41 40,.u 42 .add 41 1,.h 43 38,.f 44 0 43,.s 1 44 42] (.k [.l 45 7,.h 46 45,.f 47 1 46,.l 48 47,.m 49 8,.m 50 11,.n (.ex (.yA .str (.t 48) (.t 49) (.t 50)))] (.k [.l 51 3,.h 52 51,.f 53 1 52,.l 54 53,.o 55 (.eq .func true (.t 54) (.c .bY))] (.d 55 (.reg [.l 56 3,.h 57 56,.f 58 1 57,.l 59 58,.m 60 11,.o 61 (.call (.t 59) [(.t 60)])]) .skip)))))))
 63 [19,21,22,23,24,25,26,20,27,28,10,29,30,31,32,33,34,35,36,37,39,40,41,38,43,44,42,7,45,46,47,8,48,49,50,51,52,53,54,55,3,56,57,58,11,59,60]))) (.k [.l 62 7,.m 6 62] .ret)))⟩
def ok157:GZ f157 c157:=JF
noncomputable def qaX:=aW func158
noncomputable def qaY:=aW func159
noncomputable def qa4:=aW func164
noncomputable def TM:=aW func168
noncomputable def qa5:=aW func169
noncomputable def qa7:=aW func173
noncomputable def qa8:=aW func174
noncomputable def c177:F':=⟨31,[.cell 7 none],.k [.B 5 0,.B 6 1,.o 7 (.new (.bool false))] (.seq (.draw [.q (.l 9 2) false true [] 0 1,.p (.j 10 25 5) [],.q (.c 11 178 10) true false [1] 0 0,.q (.b 12 .add 9 11) false false [0,2,1] 1 1,.q (.s 1 2 12) true false [3,0,2,1] 1 1] []) (.k [.l 13 3,.l 14 6,.o 15 (.ex (.mm true (.t 13) (.t 14))),.s 1 3 15] (.seq (.k [.l 16 2,.u 17 .gtr 16 2000,.m 18 17,.M 19 18 false 3,.v 20 18 false (.bin .gtr (.t 19) (.c (.int .i64 60))),.z 21 18 20] (.d 21 (.k [.n (.oV 1 (.t 7) (.c (.bool false)))] .ret) .skip)) (.seq (.k [.j 22 25 5,.c 23 179 22] (.block 0 (.rf (.t 23) [24] (fK f177 0).1 (fK f177 0).2 (.reg [.o 8 (.new zP),.s 25 8 24]) (.block 1 (.k [.l 25 4,.j 26 25 8,.l 27 6,.u 28 .add 27 1,.o 29 (.call (.t 25) [(.t 26),(.t 28)]),.o 30 (.un .not (.t 29))] (.d 30 (.k [.n (.oV 1 (.t 7) (.c (.bool false)))] .ret) .skip)))
 31 [24,4,8,6,27,25,26,28,29,30,7]))) (.k [.n (.oV 1 (.t 7) (.c (.bool true)))] .ret)))))⟩
def ok177:GZ f177 c177:=JF
noncomputable def Kt:=aW func178
noncomputable def qbb:=aW func179
noncomputable def qbc:=aW func180
noncomputable def qbe:=aW func182
noncomputable def qbf:=aW func183
noncomputable def qbg:=aW func184
noncomputable def qbh:=aW func186
noncomputable def qbi:=aW func187
noncomputable def qbj:=aW func188
noncomputable def HE:=aW func193
noncomputable def qbo:=aW func195
set_option maxHeartbeats 0
set_option maxRecDepth 100000
noncomputable def Kv:=aW func200
noncomputable def Kw:=aW func201
noncomputable def Kx:=aW func202
noncomputable def qbq:=aW func203
noncomputable def qbr:=aW func204
noncomputable def qbs:=aW func206
noncomputable def qbt:=aW func207
noncomputable def ER:=aW func208
noncomputable def TO:=aW func209
noncomputable def Ky:=aW func212
noncomputable def qbw:=aW func213
noncomputable def qbx:=aW func214
noncomputable def qby:=aW func215
noncomputable def qbz:=aW func218
noncomputable def qbA:=aW func219
noncomputable def qbB:=aW func220
noncomputable def qbC:=aW func221
noncomputable def qbH:=aW func228
noncomputable def qbI:=aW func229
noncomputable def TQ:=aW func233
noncomputable def qbN:=aW func249
noncomputable def qbO:=aW func250
noncomputable def qbP:=aW func251
noncomputable def qbQ:=aW func252
noncomputable def TR:=aW func253
noncomputable def c255:F':=⟨36,[],.k [.B 2 0] (.seq (.k [.f 8 6 1,.l 9 8,.L 10 9,.G 11 0] (.block 0 (.loop (.k [.b 12 .lss 11 10] (.seq (.d 12 .skip (.exit 0)) (.seq (.block 1 (.k [.i 13 7 9 11,.j 14 7 13,.o 4 (.new zD),.s 7 4 14] (.k [.f 15 3 4,.l 16 15,.L 17 16,.G 18 0] (.block 2 (.loop (.k [.b 19 .lss 18 17] (.seq (.d 19 .skip (.exit 2)) (.seq (.block 3 (.k [.i 20 1 16 18,.l 21 20,.m 6 21] (.k [.l 22 2,.m 23 6,.o 24 (.call (.t 22) [(.t 23)]),.o 25 (.un .not (.t 24))] (.d 25 .ret .skip)))) (.reg [.u 26 .add 18 1,.m 18 26]))))))))) (.reg [.u 27 .add 11 1,.m 11 27]))))))) (.k [.f 28 7 1,.l 29 28,.c 30 158 29] (.block 4 (.rf (.t 30) [31] (fK f255 0).1 (fK f255 0).2 (.reg [.m 7 31]) (.block 5 (.k [.l 32 2,.m 33 7,.o 34 (.call (.t 32) [(.t 33)]),.o 35 (.un .not (.t 34))] (.d 35 .ret .skip)))
 36 [31,2,7,32,33,34,35]))))⟩
def ok255:GZ f255 c255:=JF
noncomputable def qbS:=aW func269
set_option maxRecDepth 20000
def qlO(k:Nat)(f':F'):Prop:=∃f,prog.funcs[k]?=some f/\ra prog f=some f'
noncomputable def qkY(k:Nat):Option F':=(prog.funcs[k]?).bind (ra prog)
def qyN(k:Nat)(f':F')(h:qkY k=some f'):qlO k f':=xJ.1 h
noncomputable def TT(l:List Pr):Tb:=⟨qkY,λk args=>Pr.find k args l⟩
def ij{l:List Pr}(h:∀p,p∈l->p.ok prog):(TT l).Ok prog:=⟨qyN,λ_ _ _ hf=>Pr.find_spec h hf⟩
def iC{p:Pr}{l:List Pr}(h:p.ok prog)(g:∀q,q∈l->q.ok prog):∀q,q∈p::l->q.ok prog:=λq hq=>by
 rcases dU.1 hq with rfl|hq
 .exact h
 .exact g q hq
def SR.grown{E:En}{S:St}{w w':aP}(h:SR E S w)(hb:∀b,b<w.heap.size->w'.heap[b]?=w.heap[b]?)(hs:w.heap.size<=w'.heap.size)(ho:(w'.output,w'.os)=(w.output,w.os)):SR E S w'/\∀n,bT n E S w E S w':=by
 refine⟨⟨h.gl.kL (λ_ _ _ h=>h) (λb _ _ _ hc _=>hb b (FW hc)),λb o' c hc=>?_,λl ob hl=>?_,h.jI,h.apart,λb kE=>?_,h.inj⟩,λn=>⟨hs,λ_ _ _ h=>h,λ_ _ _ _ h=>h,λ_ _ h=>h,λ_ h=>.inl h,λ_ _ _ h=>.inl h,λb kE _=>hb b kE,ho⟩⟩
 .have:=h.I b o' c hc;rw[zd (hb b (wE this))];exact this
 .by_cases hd:ob=.dead
  .subst hd;trivial
  exact(h.fJ l ob hl).mono (En.le_refl E) (λ_ _ hx=>hx) (λst x hx=>hb _ (h.lt _ ⟨l,st,x,⟨ob,hl,hd⟩,hx,rfl⟩))
 .have:=h.lt b kE;omega
def SR.tab {E : En} {S : St} {w : aP} (h : SR E S w) : Lib.TabIs prog w "internal/strconv.uint64pow10" .u64 Lib.pow10Tab := by
 obtain⟨t,fz,hh⟩:=h.gl.2 2 _ (by simp only[IB,ak];rfl);unfold Lib.TabIs World.var?
 rw [show prog.globalNamed "internal/strconv.uint64pow10" = some 2 by decide +kernel]
 simp only[gG,hh];simp[Lib.pow10Tab,nJ,Function.comp]
def aA.qt1{P:aG}{f:FuncId}{fn:Func}{f':F'}{args:List V}{S:St}{R:V->St->Prop}(hf:P.funcs[f]?=some fn)(hc:ra P fn=some f')
  (h:∀(E:En) (w:aP) (us:Array Value),SR E S w->uJ E args us->Calls P f us w λe w'=>∃u r E' S',e=.returned u/\R r S'/\VR E' r u/\SR E' S' w'/\bT S.length E S w E' S' w'/\S.length<=S'.length):aA P f args S R:=by
 refine⟨λxs w=>?_,λE w us n hs hv=>callsIn_wide.2 (h E w us hs hv)⟩;unfold ra at hc;split at hc
 .rename_i c rs hb M8;split at hc
  .cases hc
  .rename_i MS;simp[callFunc,program,Sem.run,Result.andThen,hf,MS,hb]
 .cases hc
def qwZ(n:Nat)(hn:n<=9223372036854775807)(S:St):aA prog 129 [af n] S (λr U=>r=.str ⟨(iZ n).toArray⟩/\U=S):=by
 refine aA.qt1 func129 ok129 λE w us hs hv=>?_
 obtain⟨hl,hv⟩:=hv
 have hu:us=#[.int .i64 n]:=by
  match us,hl with
  |⟨[u]⟩,_=>
   have:=hv 0 _ u rfl rfl;cases this;rfl
 subst hu;refine Calls.mono (Tryz.strconv_Itoa n oM oM w hs.tab) ?_;rintro e w' ⟨rfl,k,os,rfl⟩;obtain⟨g1,g2⟩:=hs.grown (w':=Sort.grow (w.drewN k) os) (λb hb=>by simp[Sort.grow,World.drewN,Array.getElem?_append,hb]) (by simp[Sort.grow,World.drewN]) rfl;refine⟨_,_,E,S,rfl,⟨rfl,rfl⟩,?_,g1,g2 _,dl _⟩;rw[show Lib.itoa (n:Int)=iZ n by unfold Lib.itoa iZ;simp];exact VR.str _
def bu{rs:List RV}{n:Nat}{R:V->St->Prop}{e:ae}{S:St}{vs:List V}(h:eL e S rs=some vs)(g:R (aY vs) S):eN rs n R .ret e S:=⟨vs,h,_,_,dJ.refl _ _ _,g⟩
def mM{rs:List RV}{n:Nat}{R:V->St->Prop}{e:ae}{S:St}{vs:List V}(h:eL e S rs=some vs)(g:R (aY vs) S):eN rs n R .normal e S:=⟨vs,h,_,_,dJ.refl _ _ _,g⟩
abbrev Fn(P:aG)(k:Nat)(args:List V)(S:St)(r:V):Prop:=aA P k args S (λv U=>v=r/\U=S)
def J0(P:aG)(k:Nat)(args:List V)(S:St)(Φ:V->St->Prop):Prop:=∃R,aA P k args S R/\∀v S',R v S'->Φ v S'
def qai(P:aG)(l:Nat)(args:List V)(S:St)(Φ:V->St->Prop):Prop:=∃R,jg P l args S R/\∀v S',R v S'->Φ v S'
def J3(P:aG)(os:List O')(Q:ae->St->Prop)(e:ae)(d:Option Nat)(v:V)(S:St):Prop:=eM P os Q (e.put d v) S
def qln(r:Option (V×St))(P:aG)(d:Option Nat)(k:K)(os:List O')(Q:ae->St->Prop)(e:ae)(S:St):Prop:=match r with
 |some (r,S')=>eM P os Q (e.put d r) S'
 |none=>(qM e k≠[]/\∀v,v∈qM e k->eM P os Q (e.put d v) S)\/(sL e S k≠[]/\∀q,q∈sL e S k->eM P os Q (e.put d q.1) q.2)
def Tt(g:Option Bool)(P:aG)(d:Option Nat)(k:K)(os:List O')(Q:ae->St->Prop)(e:ae)(S:St):Prop:=match g with
 |none=>False
 |some false=>eM P os Q (e.put d (.aV [])) S
 |some true=>eM P (⟨d,none,k⟩::os) Q e S
def Tq(c:Option V)(P:aG)(a b:C')(Q:dV)(e:ae)(S:St):Prop:=match c with
 |some (.bool true)=>WP P a Q e S
 |some (.bool false)=>WP P b Q e S
 |_=>False
def qah(f:Option V)(vs:Option (List V))(P:aG)(d:Option Nat)(os:List O')(Q:ae->St->Prop)(e:ae)(S:St):Prop:=match f,vs with
 |some (.fn (.func k) fs cs),some vs=>J0 P k (fs++vs++cs) S (J3 P os Q e d)
 |some (.dc l),some vs=>qai P l vs S (J3 P os Q e d)
 |_,_=>False
def qzn{P:aG}{os:List O'}{Q:ae->St->Prop}{e:ae}{d:Option Nat}{v:V}{S:St}:J3 P os Q e d v S=eM P os Q (e.put d v) S:=(rfl)
def qzz{P:aG}{d:Option Nat}{k:K}{os:List O'}{Q:ae->St->Prop}{e:ae}{r:V}{S S':St}:qln (some (r,S')) P d k os Q e S=eM P os Q (e.put d r) S':=(rfl)
def qzg{P:aG}{d:Option Nat}{k:K}{os:List O'}{Q:ae->St->Prop}{e:ae}{S:St}:Tt (some false) P d k os Q e S=eM P os Q (e.put d (.aV [])) S:=(rfl)
def qzh{P:aG}{d:Option Nat}{k:K}{os:List O'}{Q:ae->St->Prop}{e:ae}{S:St}:Tt (some true) P d k os Q e S=eM P (⟨d,none,k⟩::os) Q e S:=(rfl)
def qzd{P:aG}{a b:C'}{Q:dV}{e:ae}{S:St}:Tq (some (.bool true)) P a b Q e S=WP P a Q e S:=(rfl)
def qzc{P:aG}{a b:C'}{Q:dV}{e:ae}{S:St}:Tq (some (.bool false)) P a b Q e S=WP P b Q e S:=(rfl)
def qzA{P:aG}{k:Nat}{fs cs vs:List V}{d:Option Nat}{os:List O'}{Q:ae->St->Prop}{e:ae}{S:St}:qah (some (.fn (.func k) fs cs)) (some vs) P d os Q e S=J0 P k (fs++vs++cs) S (J3 P os Q e d):=(rfl)
def qzB{P:aG}{l:Nat}{vs:List V}{d:Option Nat}{os:List O'}{Q:ae->St->Prop}{e:ae}{S:St}:qah (some (.dc l)) (some vs) P d os Q e S=qai P l vs S (J3 P os Q e d):=(rfl)
def qzq{P:aG}{Q:ae->St->Prop}{e:ae}{S:St}:eM P [] Q e S=Q e S:=(rfl)
def qzp{P:aG}{d:Option Nat}{g:Nat×Bool}{k:K}{os:List O'}{Q:ae->St->Prop}{e:ae}{S:St}:eM P (⟨d,some g,k⟩::os) Q e S=Tt (jT e (some g)) P d k os Q e S:=by
 unfold Tt
 cases h:jT e (some g) with
 |none=>simp only[eM,h]
 |some b=>cases b<;>simp only[eM,h]<;>rfl
def qzo{P:aG}{d:Option Nat}{f:bK}{args:List bK}{os:List O'}{Q:ae->St->Prop}{e:ae}{S:St}:eM P (⟨d,none,.call f args⟩::os) Q e S=qah (f.ev e) (mr e args) P d os Q e S:=(rfl)
def qlj{P:aG}{d:Option Nat}{k:K}{os:List O'}{Q:ae->St->Prop}{e:ae}{S:St}(h:∀f args,k≠.call f args):eM P (⟨d,none,k⟩::os) Q e S=qln (cf e S k) P d k os Q e S:=by
 cases k<;>first|rfl|exact absurd rfl (h _ _)
def aZ{P:aG}{k:Nat}{args:List V}{S:St}{r:V}{Φ:V->St->Prop}(h:Fn P k args S r)(g:Φ r S):J0 P k args S Φ:=
 ⟨_,h,λ_ _ hh=>by obtain⟨rfl,rfl⟩:=hh;exact g⟩
def bE{P:aG}{k:Nat}{args:List V}{S:St}{R:V->St->Prop}{Φ:V->St->Prop}(h:aA P k args S R)(g:∀v U,R v U->Φ v U):J0 P k args S Φ:=⟨_,h,g⟩
def qc0{P:aG}{Q:dV}{e:ae}{S:St}:WP P .skip Q e S=Q .normal e S:=(rfl)
def qcY{P:aG}{ops:List O'}{Q:dV}{e:ae}{S:St}:WP P (.reg ops) Q e S=eM P ops (Q .normal) e S:=(rfl)
def HT{P:aG}{a b:C'}{Q:dV}{e:ae}{S:St}:WP P (.seq a b) Q e S=WP P a (lS (WP P b Q) Q) e S:=(rfl)
def ql5{P:aG}{c:bK}{a b:C'}{Q:dV}{e:ae}{S:St}:WP P (.cond c a b) Q e S=Tq (c.ev e) P a b Q e S:=by
 unfold Tq;simp only[WP]
 cases c.ev e with
 |none=>rfl
 |some v=>cases v<;>first|rfl|(rename_i b;cases b<;>simp)
def qcU{P:aG}{id:Nat}{c:C'}{Q:dV}{e:ae}{S:St}:WP P (.block id c) Q e S=WP P c (yG id Q) e S:=(rfl)
def qcZ{P:aG}{c:C'}{Q:dV}{e:ae}{S:St}:WP P (.scope c) Q e S=WP P c (G2 Q) e S:=(rfl)
def ql8{P:aG}{id:Nat}{Q:dV}{e:ae}{S:St}:WP P (.exit id) Q e S=Q (.exit id) e S:=(rfl)
def ql9{P:aG}{Q:dV}{e:ae}{S:St}:WP P .ret Q e S=Q .ret e S:=(rfl)
def cE{P:aG}{c:C'}{Q:dV}{e:ae}{S:St}(I:Nat->ae->St->Prop)(n0:Nat)(e0:ae)(hs:ae.sub e0 e)(h0:I n0 e0 S)
 (h:∀n e S,I n e S->WP P c (lS (λe S=>∃n',n'<n/\∃e',ae.sub e' e/\I n' e' S) Q) e S):WP P (.loop c) Q e S:=⟨I,n0,⟨e0,hs,h0⟩,h⟩
def qjo{N:ae->St->Prop}{Q:dV}{e:ae}{S:St}:lS N Q .normal e S=N e S:=(rfl)
def ae.gZ(e:ae):ae.sub [] e:=λt v h=>by simp[ae.get]at h
def ae.fp{e e':ae}{k:Nat}{v:V}(h:e.get k=some v)(g:ae.sub e' e):ae.sub ((k,v)::e') e:=λt u hu=>by
 simp only[ae.get]at hu;split at hu
 .rename_i hk;subst hk;cases hu;exact h
 .exact g _ _ hu
@[simp] def ae.sa:ae->ae->Prop
 |[],_=>True
 |(k,v)::r,e=>e.get k=some v/\ae.sa r e
def ae.so:∀{a e:ae},ae.sa a e->ae.sub a e
 |[],e,_=>ae.gZ e
 |(k,v)::r,e,h=>ae.fp h.1 (ae.so h.2)
def ba{a e:ae}(h:ae.sa a e:=by simp):ae.sub a e:=ae.so h
def fO{n:Int}(h0:-9223372036854775808<=n)(h1:n<=9223372036854775807):IntKind.i64.wrap n=n:=by rw[IntKind.wrap_i64];omega
def qAF{n:Int}(h0:-9223372036854775808<=n:=by omega)(h1:n<=9223372036854775807:=by omega):IntKind.i64.wrap n=n:=fO h0 h1
def cG(i:Nat)(h:(i:Int)+1<=9223372036854775807:=by omega):IntKind.i64.wrap ((i:Int)+1)=(i:Int)+1:=fO oM h
def qkS(a b:Bz):BG a b=decide (a=b):=by
 unfold BG;by_cases h:a=b
 .subst h;simp
 ·have:¬ a.toList=b.toList:=λhh=>h (by
   rw[EA,EA]at hh;exact vT (xz hh))
  simp[h,this]
def oR{l:List Bz}{i:Nat}(h:i<l.length)(b:Bool)(S:St):gP S 1 (.sl b (l.map .str)) i=some (.cq (.str l[i]) 0):=by simp[gP,h,V.size,V.cells]
theorem qsS(s:Bz)(S:St):ab S (.cq (.str s) 0) none=some (.str s):=rfl
def qyC(a b:Bz):vF .eql a b=some (.bool (decide (a=b))):=by simp[vF,qkS]
def qyD(a b:Bz):vF .neq a b=some (.bool (!decide (a=b))):=by simp[vF,qkS]
def Nv{s:Bz}{i:Nat}(h:i<s.size):yw s i=some (.int .u8 (s.data[i]'h).toNat):=by
 have h1:(s[(i:Int).toNat]?:Option UInt8)=some s[i]:=getElem?_pos s i h;unfold yw;rw[h1];simp[ByteArray.getElem_eq_getElem_data]
def qgh{s:Bz}(h:0<s.size):yw s 0=some (.int .u8 (s.data[0]'h).toNat):=by
 have:=Nv h;simpa using this
attribute [simp] qc0 qcY HT ql5 qcU qcZ ql8 ql9 qzn qzz qzg qzh qzd qzc qzA qzB qzq qzp qzo qlj qjo lS yG
 jT cf mr bK.ev ae.get ae.put jV CO GA JW eL aY qsS qyC qyD
set_option maxHeartbeats 0
set_option maxRecDepth 100000
noncomputable def C45:=aW func45
noncomputable def O1:=aW func21
noncomputable def C94:=aW func94
noncomputable def O3:=aW func34
noncomputable def C64:=aW func64
noncomputable def C65:=aW func65
noncomputable def C66:=aW func66
noncomputable def qaD:=aW func115
noncomputable def qaC:=aW func114
noncomputable def qaE:=aW func116
def qK(c:Int):Bool:=decide (97<=c)&&decide (c<=122)
def vp(c:Int):Bool:=decide (48<=c)&&decide (c<=57)
def qkf(c:Int)(S:St):Fn prog 102 [.int .u8 c] S (.bool (qK c)):=by
 refine aA.ib qas ?_;unfold qK;by_cases h1:97<=c<;>by_cases h2:c<=122<;>simp[qas,h1,h2]<;>exact bu rfl sM
def qxc(c:Int)(S:St):Fn prog 155 [.int .u8 c] S (.bool (vp c)):=by
 refine aA.ib qaV ?_;unfold vp;by_cases h1:48<=c<;>by_cases h2:c<=57<;>simp[qaV,h1,h2]<;>exact bu rfl sM
def qkG(c:Int)(S:St):Fn prog 64 [.int .u8 c] S (.bool (qK c)):=by
 refine aA.ib C64 ?_;unfold qK;by_cases h1:97<=c<;>by_cases h2:c<=122<;>simp[C64,h1,h2]<;>exact bu rfl sM
def qwX(c:Int)(S:St):Fn prog 116 [.int .u8 c] S (.bool (vp c)):=by
 refine aA.ib qaE ?_;unfold vp;by_cases h1:48<=c<;>by_cases h2:c<=57<;>simp[qaE,h1,h2]<;>exact bu rfl sM
def qwR(c:Int)(S:St):Fn prog 106 [.int .u8 c] S (.bool (qK c||vp c)):=by
 refine aA.ib qaw ?_;simp[qaw];refine aZ (qkf c S) ?_;cases qK c<;>simp
 .refine aZ (qxc c S) ?_
  try simp
  exact bu rfl sM
 .exact bu rfl sM
def qwQ(c:Int)(S:St):Fn prog 105 [.int .u8 c] S (.bool (!(qK c||vp c))):=by
 refine aA.ib qav ?_;simp[qav];refine aZ (qwR c S) ?_
 try simp
 exact bu rfl sM
def OP:List V:=[(.str ⟨⟨[98,101,103,105,110]⟩⟩),(.str ⟨⟨[101,110,100]⟩⟩),(.str ⟨⟨[105,102]⟩⟩),(.str ⟨⟨[116,104,101,110]⟩⟩),(.str ⟨⟨[101,108,115,101]⟩⟩),(.str ⟨⟨[102,111,114]⟩⟩),(.str ⟨⟨[100,111]⟩⟩),(.str ⟨⟨[115,116,101,112]⟩⟩),(.str ⟨⟨[117,110,116,105,108]⟩⟩),(.str ⟨⟨[119,104,105,108,101]⟩⟩),(.str ⟨⟨[103,111,116,111]⟩⟩),(.str ⟨⟨[111,119,110]⟩⟩),(.str ⟨⟨[105,110,116,101,103,101,114]⟩⟩),(.str ⟨⟨[114,101,97,108]⟩⟩),(.str ⟨⟨[98,111,111,108,101,97,110]⟩⟩),(.str ⟨⟨[97,114,114,97,121]⟩⟩),(.str ⟨⟨[115,119,105,116,99,104]⟩⟩),(.str ⟨⟨[112,114,111,99,101,100,117,114,101]⟩⟩),(.str ⟨⟨[118,97,108,117,101]⟩⟩),(.str ⟨⟨[108,97,98,101,108]⟩⟩),(.str ⟨⟨[115,116,114,105,110,103]⟩⟩),(.str ⟨⟨[116,114,117,101]⟩⟩),(.str ⟨⟨[102,97,108,115,101]⟩⟩),(.str ⟨⟨[99,111,109,109,101,110,116]⟩⟩),(.str ⟨⟨[110,111,116]⟩⟩),(.str ⟨⟨[97,110,100]⟩⟩),(.str ⟨⟨[111,114]⟩⟩),(.str ⟨⟨[105,109,112]⟩⟩),(.str ⟨⟨[101,113,118]⟩⟩)]
def qyT:V->Bz
 |.str s=>s
 |_=>⟨#[]⟩
def uh:List Bz:=OP.map qyT
theorem qlc:uh.map V.str=OP:=rfl
theorem qlb:uh.length=29:=rfl
def qwW(S:St):Fn prog 115 [] S (.sl true (uh.map .str)):=by
 rw[qlc];refine aA.ib qaD ?_;show eN qaD.c.rs S.length _ .ret [(0,.sl true OP),(1,.sl true OP),(0,sN)] S;exact bu (vs:=[.sl true OP]) rfl ⟨rfl,rfl⟩
def qxp(b:Bool)(l:List Bz)(s:Bz)(S:St)(hl:l.length<=1000000):aA prog 184 [.sl b (l.map .str),.str s] S (λv U=>(∃i:Int,v=af i/\(0<=i↔s∈l))/\U=S):=by
 refine aA.ib qbg ?_;simp[qbg];refine cE (λn e S'=>∃i:Nat,n=l.length - i∧i≤l.length∧(∀j,(h:j<l.length)→j<i→l[j]≠s)∧S'=S∧
  e=[(8,af i),(7,af l.length),(4,z0),(0,.sl b (l.map .str)),(1,.str s)]) l.length _ ?_ ⟨0,sM,oM,oM,rfl,rfl⟩ ?_
 .exact ba
 rintro n e S' ⟨i,rfl,hi,cB,rfl,rfl⟩;by_cases h:i<l.length
 .by_cases he:s=l[i]
  .simp[h,oR,he];exact bu rfl ⟨⟨i,rfl,sM⟩,rfl⟩
  .simp[h,oR,he,cG i];refine⟨_,?_,_,?_,i+1,rfl,oM,λj hj rl=>?_,rfl⟩
   .omega
   .exact ba
   .by_cases fg:j=i
    .subst fg;exactλhh=>he hh.symm
    .exact cB j hj oM
 .simp[h];refine bu rfl ⟨⟨-1,rfl,?_⟩,rfl⟩;simp;intro hs;obtain⟨j,hj,rfl⟩:=xF hs;exact cB j hj oM rfl
set_option maxRecDepth 20000
def Y26:V:=(.agg [(.int .i64 1),z0,(.int .i64 1),z0,z0,(.str ⟨⟨[]⟩⟩),sN])
def Y25:V:=(.agg [(.int .i64 1),z0,(.int .i64 2),z0,z0,(.str ⟨⟨[]⟩⟩),sN])
def Y24:V:=(.agg [(.int .i64 6),z0,z0,z0,z0,(.str ⟨⟨[97]⟩⟩),sN])
def Y23:V:=(.agg [(.int .i64 6),z0,z0,z0,z0,(.str ⟨⟨[107]⟩⟩),sN])
def Y22:V:=(.agg [(.int .i64 6),z0,z0,z0,z0,(.str ⟨⟨[105]⟩⟩),sN])
def Y21:V:=(.agg [(.int .i64 6),z0,z0,z0,z0,(.str ⟨⟨[108]⟩⟩),sN])
def Y20:V:=(.agg [(.int .i64 1),(.bool false),(.int .i64 1),(.sl true [(.str ⟨⟨[98]⟩⟩)]),sN,sN,sN])
def Y19:V:=(.sl true [(.agg [(.int .i64 1),(.bool false),(.int .i64 1),(.sl true [(.str ⟨⟨[120]⟩⟩)]),sN,sN,sN])])
def Y18:V:=(.sl true [(.agg [(.int .i64 1),(.bool false),(.int .i64 1),(.sl true [(.str ⟨⟨[120,49]⟩⟩)]),sN,sN,sN])])
def Y17:V:=(.sl false [(.agg [(.int .i64 1),(.bool false),(.int .i64 1),(.sl false [(.str ⟨⟨[120,49]⟩⟩)]),sN,sN,sN])])
def Um:V:=(.agg [(.int .i64 6),z0,z0,z0,z0,(.str ⟨⟨[116]⟩⟩),sN])
def Y15:V:=(.agg [sN,(.int .i64 3),(.str ⟨⟨[]⟩⟩),sN,(.sl true [Y21]),sN,sN,sN])
def Ul:V:=(.agg [sN,z0,(.str ⟨⟨[]⟩⟩),sN,sN,sN,sN,sN])
def PK:V:=(.agg [(.int .i64 6),z0,z0,z0,z0,(.str ⟨⟨[122]⟩⟩),sN])
def PI:V:=(.agg [(.int .i64 6),z0,z0,z0,z0,(.str ⟨⟨[121]⟩⟩),sN])
def KY:V:=(.agg [(.int .i64 6),z0,z0,z0,z0,(.str ⟨⟨[98]⟩⟩),sN])
def Y9:V:=(.agg [(.int .i64 7),z0,z0,z0,z0,(.str ⟨⟨[113]⟩⟩),(.sl true [Y22])])
def Y8:V:=(.agg [(.int .i64 10),(.int .i64 3),z0,z0,z0,(.str ⟨⟨[]⟩⟩),(.sl true [Y23,Y26])])
def Y4:V:=(.agg [(.int .i64 6),z0,z0,z0,z0,(.str ⟨⟨[120,49]⟩⟩),sN])
def Y3:V:=(.agg [(.int .i64 6),z0,z0,z0,z0,(.str ⟨⟨[120]⟩⟩),sN])
def Y2:V:=(.agg [(.int .i64 4),(.bool false),z0,(.sl true [(.str ⟨⟨[112]⟩⟩)]),sN,(.sl true [(.agg [(.str ⟨⟨[97]⟩⟩),(.bool false),z0,z0]),(.agg [(.str ⟨⟨[98]⟩⟩),(.bool true),(.int .i64 1),(.int .i64 1)])]),(.sl true [(.agg [sN,(.int .i64 7),(.str ⟨⟨[]⟩⟩),sN,sN,sN,Y19,(.sl true [(.agg [sN,(.int .i64 2),(.str ⟨⟨[]⟩⟩),(.sl true [Y3]),(.sl true [KY]),sN,sN,sN]),(.agg [sN,(.int .i64 2),(.str ⟨⟨[]⟩⟩),(.sl true [Y24]),(.sl true [(.agg [(.int .i64 10),(.int .i64 3),z0,z0,z0,(.str ⟨⟨[]⟩⟩),(.sl true [Y24,Y3])])]),sN,sN,sN])])])])])
def Y1:V:=(.agg [sN,(.int .i64 7),(.str ⟨⟨[]⟩⟩),sN,sN,sN,(.sl true [(.agg [(.int .i64 1),(.bool false),(.int .i64 1),(.sl true [(.str ⟨⟨[116]⟩⟩)]),sN,sN,sN])]),(.sl true [(.agg [sN,(.int .i64 2),(.str ⟨⟨[]⟩⟩),(.sl true [Um]),(.sl true [PI]),sN,sN,sN]),(.agg [(.sl true [(.str ⟨⟨[109]⟩⟩)]),(.int .i64 8),(.str ⟨⟨[]⟩⟩),sN,sN,sN,sN,(.sl true [(.agg [sN,(.int .i64 2),(.str ⟨⟨[]⟩⟩),(.sl true [Um]),(.sl true [(.agg [(.int .i64 10),(.int .i64 3),z0,z0,z0,(.str ⟨⟨[]⟩⟩),(.sl true [Um,PK])])]),sN,sN,sN]),(.agg [sN,(.int .i64 3),(.str ⟨⟨[]⟩⟩),sN,(.sl true [(.agg [(.int .i64 6),z0,z0,z0,z0,(.str ⟨⟨[109]⟩⟩),sN])]),sN,sN,sN])])])])])
def Y0:V:=(.agg [sN,(.int .i64 7),(.str ⟨⟨[]⟩⟩),sN,sN,sN,Y19,(.sl true [(.agg [sN,(.int .i64 2),(.str ⟨⟨[]⟩⟩),(.sl true [Y3]),(.sl true [PI]),sN,sN,sN]),(.agg [(.sl true [(.str ⟨⟨[108]⟩⟩)]),(.int .i64 8),(.str ⟨⟨[]⟩⟩),sN,sN,sN,sN,(.sl true [(.agg [sN,(.int .i64 2),(.str ⟨⟨[]⟩⟩),(.sl true [Y3]),(.sl true [(.agg [(.int .i64 10),(.int .i64 3),z0,z0,z0,(.str ⟨⟨[]⟩⟩),(.sl true [Y3,PK])])]),sN,sN,sN]),Y15])])])])
def zc:V:=(.agg [(.int .i64 10),(.int .i64 5),z0,z0,z0,(.str ⟨⟨[]⟩⟩),(.sl true [Y3,Y25])])
def Y7:V:=(.agg [sN,(.int .i64 7),(.str ⟨⟨[]⟩⟩),sN,sN,sN,Y18,(.sl true [(.agg [sN,(.int .i64 2),(.str ⟨⟨[]⟩⟩),(.sl true [Y4]),(.sl true [zc]),sN,sN,sN]),(.agg [(.sl true [(.str ⟨⟨[108]⟩⟩)]),(.int .i64 8),(.str ⟨⟨[]⟩⟩),sN,sN,sN,sN,(.sl true [(.agg [sN,(.int .i64 2),(.str ⟨⟨[]⟩⟩),(.sl true [Y4]),(.sl true [(.agg [(.int .i64 10),(.int .i64 3),z0,z0,z0,(.str ⟨⟨[]⟩⟩),(.sl true [Y4,Y9])])]),sN,sN,sN]),Y15])])])])
def Y6:V:=(.agg [sN,(.int .i64 7),(.str ⟨⟨[]⟩⟩),sN,sN,sN,Y17,(.sl false [(.agg [sN,(.int .i64 2),(.str ⟨⟨[]⟩⟩),(.sl false [Y4]),(.sl false [(.agg [(.int .i64 10),(.int .i64 5),z0,z0,z0,(.str ⟨⟨[]⟩⟩),(.sl false [Y3,Y25])])]),sN,sN,sN]),(.agg [(.sl false [(.str ⟨⟨[108]⟩⟩)]),(.int .i64 8),(.str ⟨⟨[]⟩⟩),sN,sN,sN,sN,(.sl false [(.agg [sN,(.int .i64 2),(.str ⟨⟨[]⟩⟩),(.sl false [Y4]),(.sl false [(.agg [(.int .i64 10),(.int .i64 3),z0,z0,z0,(.str ⟨⟨[]⟩⟩),(.sl false [Y4,(.agg [(.int .i64 7),z0,z0,z0,z0,(.str ⟨⟨[113]⟩⟩),(.sl false [Y22])])])])]),sN,sN,sN]),(.agg [sN,(.int .i64 3),(.str ⟨⟨[]⟩⟩),sN,(.sl false [Y21]),sN,sN,sN])])])])])
def Y5:V:=(.agg [sN,(.int .i64 7),(.str ⟨⟨[]⟩⟩),sN,sN,sN,(.sl false [Y20]),(.sl false [(.agg [sN,(.int .i64 2),(.str ⟨⟨[]⟩⟩),(.sl true [KY]),(.sl true [(.agg [(.int .i64 10),(.int .i64 3),z0,z0,z0,(.str ⟨⟨[]⟩⟩),(.sl false [Y23,Y26])])]),sN,sN,sN]),(.agg [sN,(.int .i64 7),(.str ⟨⟨[]⟩⟩),sN,sN,sN,Y17,(.sl false [(.agg [sN,(.int .i64 2),(.str ⟨⟨[]⟩⟩),(.sl false [Y4]),(.sl false [KY]),sN,sN,sN]),(.agg [sN,(.int .i64 2),(.str ⟨⟨[]⟩⟩),(.sl false [Y3]),(.sl false [(.agg [(.int .i64 10),(.int .i64 3),z0,z0,z0,(.str ⟨⟨[]⟩⟩),(.sl false [Y3,Y4])])]),sN,sN,sN])])])])])
def qie:List Pr:=[]
theorem qif:∀p,p∈qie->p.ok prog:=λp hp=>by cases hp
def pr1:Pr:=⟨53,[(.str ⟨⟨[120]⟩⟩),(.str ⟨⟨[108]⟩⟩),PI,PK],Y0⟩
theorem quL:pr1.ok prog:=Pr.run (ij qif) 200 (by decide+kernel)
def qig:List Pr:=pr1::qie
theorem qiB:∀p,p∈qig->p.ok prog:=iC quL qif
def pr2:Pr:=⟨153,[],(.sl false [(.str ⟨⟨[98,101,103,105,110]⟩⟩),(.str ⟨⟨[101,110,100]⟩⟩),(.str ⟨⟨[105,102]⟩⟩),(.str ⟨⟨[116,104,101,110]⟩⟩),(.str ⟨⟨[101,108,115,101]⟩⟩),(.str ⟨⟨[102,111,114]⟩⟩),(.str ⟨⟨[100,111]⟩⟩),(.str ⟨⟨[115,116,101,112]⟩⟩),(.str ⟨⟨[117,110,116,105,108]⟩⟩),(.str ⟨⟨[119,104,105,108,101]⟩⟩),(.str ⟨⟨[103,111,116,111]⟩⟩),(.str ⟨⟨[111,119,110]⟩⟩),(.str ⟨⟨[105,110,116,101,103,101,114]⟩⟩),(.str ⟨⟨[114,101,97,108]⟩⟩),(.str ⟨⟨[98,111,111,108,101,97,110]⟩⟩),(.str ⟨⟨[97,114,114,97,121]⟩⟩),(.str ⟨⟨[115,119,105,116,99,104]⟩⟩),(.str ⟨⟨[112,114,111,99,101,100,117,114,101]⟩⟩),(.str ⟨⟨[118,97,108,117,101]⟩⟩),(.str ⟨⟨[108,97,98,101,108]⟩⟩),(.str ⟨⟨[115,116,114,105,110,103]⟩⟩),(.str ⟨⟨[116,114,117,101]⟩⟩),(.str ⟨⟨[102,97,108,115,101]⟩⟩),(.str ⟨⟨[99,111,109,109,101,110,116]⟩⟩),(.str ⟨⟨[110,111,116]⟩⟩),(.str ⟨⟨[97,110,100]⟩⟩),(.str ⟨⟨[111,114]⟩⟩),(.str ⟨⟨[105,109,112]⟩⟩),(.str ⟨⟨[101,113,118]⟩⟩)])⟩
theorem qhY:pr2.ok prog:=Pr.run (ij qiB) 200 (by decide+kernel)
def qiC:List Pr:=pr2::qig
theorem qiX:∀p,p∈qiC->p.ok prog:=iC qhY qiB
def pr3:Pr:=⟨57,[(.str ⟨⟨[120]⟩⟩)],(.bool true)⟩
theorem qu3:pr3.ok prog:=Pr.run (ij qiX) 200 (by decide+kernel)
def qiY:List Pr:=pr3::qiC
theorem qjb:∀p,p∈qiY->p.ok prog:=iC qu3 qiX
def pr4:Pr:=⟨57,[(.str ⟨⟨[121]⟩⟩)],(.bool true)⟩
theorem qu4:pr4.ok prog:=Pr.run (ij qjb) 200 (by decide+kernel)
def qjc:List Pr:=pr4::qiY
theorem qjd:∀p,p∈qjc->p.ok prog:=iC qu4 qjb
def pr5:Pr:=⟨57,[(.str ⟨⟨[108]⟩⟩)],(.bool true)⟩
theorem qu5:pr5.ok prog:=Pr.run (ij qjd) 200 (by decide+kernel)
def qje:List Pr:=pr5::qjc
theorem qjf:∀p,p∈qje->p.ok prog:=iC qu5 qjd
def pr6:Pr:=⟨57,[(.str ⟨⟨[122]⟩⟩)],(.bool true)⟩
theorem qu6:pr6.ok prog:=Pr.run (ij qjf) 200 (by decide+kernel)
def qjg:List Pr:=pr6::qje
theorem qjh:∀p,p∈qjg->p.ok prog:=iC qu6 qjf
def eJ(s:Bz)(l:List Bz):Bool:=l.any λx=>decide (x=s)
def mU{s:Bz}{l:List Bz}:eJ s l=true↔s∈l:=by simp[eJ]
def zB{s:Bz}{l:List Bz}:eJ s l=false↔s∉l:=by rw[<-mU];simp
def qw9(b:Bool)(l:List Bz)(s:Bz)(S:St)(hl:l.length<=1000000):Fn prog 152 [.sl b (l.map .str),.str s] S (.bool (eJ s l)):=by
 refine aA.ib qaT ?_;simp[qaT];refine bE (qxp b l s S hl) ?_;rintro v S' ⟨⟨i,rfl,hi⟩,rfl⟩;simp;exact bu rfl ⟨by simp only[aY,V.bool.injEq];rw[eR,mU,<-hi];simp,rfl⟩
def qxa(S:St):Fn prog 153 [] S (ah (uh.map .str)):=by
 rw[qlc];exact qhY S
def qwO(s:Bz)(S:St):Fn prog 103 [.str s] S (.bool (eJ s uh)):=by
 refine aA.ib qat ?_;simp[qat];refine aZ (qxa S) ?_;refine aZ (qw9 false uh s S (by rw[qlb];omega)) ?_;exact bu rfl ⟨rfl,rfl⟩
def qwV(b:Bool)(l:List Bz)(s:Bz)(S:St)(hl:l.length<=1000000):Fn prog 114 [.str s,.sl b (l.map .str)] S (.bool (eJ s l)):=by
 refine aA.ib qaC ?_;simp[qaC];refine cE (λn e S'=>∃i:Nat,n=l.length - i∧i≤l.length∧(∀j,(h:j<l.length)→j<i→l[j]≠s)∧S'=S∧
  e=[(5,af i),(4,.bool false),(0,.str s),(1,.sl b (l.map .str))]) l.length _ ?_ ⟨0,sM,oM,oM,rfl,rfl⟩ ?_
 .exact ba
 rintro n e S' ⟨i,rfl,hi,cB,rfl,rfl⟩;by_cases h:i<l.length
 .by_cases he:l[i]=s
  .simp[h,oR,he];exact bu rfl ⟨by rw[mU.2 (by rw[<-he];exact dz h)];rfl,rfl⟩
  .simp[h,oR,he,cG i];refine⟨_,?_,_,?_,i+1,rfl,oM,λj hj rl=>?_,rfl⟩
   .omega
   .exact ba
   .by_cases fg:j=i
    .subst fg;exact he
    .exact cB j hj oM
 .simp[h];refine bu rfl ⟨?_,rfl⟩;rw[zB.2]
  .rfl
  intro hs;obtain⟨j,hj,rfl⟩:=xF hs;exact cB j hj oM rfl
def qx1(b:Bool)(l:List Bz)(s:Bz)(S:St)(hl:l.length<=1000000):Fn prog 34 [.sl b (l.map .str),.str s] S (.bool (eJ s l)):=by
 refine aA.ib O3 ?_;simp[O3];refine cE (λn e S'=>∃i:Nat,n=l.length - i∧i≤l.length∧(∀j,(h:j<l.length)→j<i→l[j]≠s)∧S'=S∧
  e=[(5,af i),(4,.bool false),(0,.sl b (l.map .str)),(1,.str s)]) l.length _ ?_ ⟨0,sM,oM,oM,rfl,rfl⟩ ?_
 .exact ba
 rintro n e S' ⟨i,rfl,hi,cB,rfl,rfl⟩;by_cases h:i<l.length
 .by_cases he:l[i]=s
  .simp[h,oR,he];exact bu rfl ⟨by rw[mU.2 (by rw[<-he];exact dz h)];rfl,rfl⟩
  .simp[h,oR,he,cG i];refine⟨_,?_,_,?_,i+1,rfl,oM,λj hj rl=>?_,rfl⟩
   .omega
   .exact ba
   .by_cases fg:j=i
    .subst fg;exact he
    .exact cB j hj oM
 .simp[h];refine bu rfl ⟨?_,rfl⟩;rw[zB.2]
  .rfl
  intro hs;obtain⟨j,hj,rfl⟩:=xF hs;exact cB j hj oM rfl
def qyc(s:Bz)(S:St):Fn prog 65 [.str s] S (.bool (eJ s uh)):=by
 refine aA.ib C65 ?_;simp[C65];refine aZ (qwW S) ?_;refine aZ (qwV true uh s S (by rw[qlb];omega)) ?_;exact bu rfl ⟨rfl,rfl⟩
def tJ(b:UInt8):Bool:=qK b.toNat||vp b.toNat
def As(l:List UInt8):Bool:=l.all tJ
def PL{l:List UInt8}:As l=true↔∀i,(h:i<l.length)->tJ l[i]=true:=by
 unfold As;rw[fR];exact⟨λhh i h=>hh _ (dz h),λhh x hx=>by obtain⟨i,h,rfl⟩:=xF hx;exact hh i h⟩
def EF(b:UInt8):V:=.int .u8 b.toNat
def qr8{l:List UInt8}{i:Nat}(h:i<l.length)(b:Bool)(S:St):gP S 1 (.sl b (l.map EF)) i=some (.cq (EF l[i]) 0):=by simp[gP,h,V.size,V.cells,EF]
theorem qsL(s:UInt8)(S:St):ab S (.cq (EF s) 0) none=some (EF s):=rfl
def qxb(b:Bool)(l:List UInt8)(S:St)(hl:l.length<=1000000):aA prog 154 [.sl b (l.map EF),.fn (.func 105) [] []] S (λv U=>(∃i:Int,v=af i/\(0<=i↔As l=false))/\U=S):=by
 refine aA.ib qaU ?_;simp[qaU];refine cE (λn e S'=>∃i:Nat,n=l.length - i∧i≤l.length∧(∀j,(h:j<l.length)→j<i→tJ l[j]=true)∧S'=S∧
  e=[(8,af i),(7,af l.length),(4,z0),(0,.sl b (l.map EF)),(1,.fn (.func 105) [] [])]) l.length _ ?_ ⟨0,sM,oM,oM,rfl,rfl⟩ ?_
 .exact ba
 rintro n e S' ⟨i,rfl,hi,cB,rfl,rfl⟩;by_cases h:i<l.length
 .simp[h,qr8,qsL];refine aZ (qwQ _ S') ?_;by_cases he:tJ l[i]=true
  .rw[show(qK l[i].toNat||vp l[i].toNat)=true from he];simp[cG i];refine⟨_,?_,_,?_,i+1,rfl,oM,λj hj rl=>?_,rfl⟩
   .omega
   .exact ba
   .by_cases fg:j=i
    .subst fg;exact he
    .exact cB j hj oM
  .have uT:tJ l[i]=false:=by simpa using he
   rw[show(qK l[i].toNat||vp l[i].toNat)=false from uT];simp;refine bu rfl ⟨⟨i,rfl,?_⟩,rfl⟩;rw[<-Cj,PL];exact⟨λ_ hh=>he (hh i h),λ_=>by omega⟩
 .simp[h];refine bu rfl ⟨⟨-1,rfl,?_⟩,rfl⟩;rw[<-Cj,PL];exact⟨λhh=>by omega,λhh=>absurd (λj hj=>cB j hj oM) hh⟩
def qwP(b:Bool)(l:List UInt8)(S:St)(hl:l.length<=1000000):Fn prog 104 [.sl b (l.map EF),.fn (.func 105) [] []] S (.bool (!As l)):=by
 refine aA.ib qau ?_;simp[qau];refine bE (qxb b l S hl) ?_;rintro v S' ⟨⟨i,rfl,hi⟩,rfl⟩;simp;refine bu rfl ⟨?_,rfl⟩;simp only[aY,hi];cases As l<;>simp
def qyd(s:Bz)(S:St)(hl:s.size<=1000000):aA prog 66 [.str s,z0] S (λv U=>(∃i:Int,v=af i/\(i=s.size↔As s.data.toList=true))/\U=S):=by
 have bF:s.data.toList.length=s.size:=sM;refine aA.ib C66 ?_;simp[C66];refine cE (λn e S'=>∃i:Nat,n=s.size - i∧i≤s.size∧(∀j,(h:j<s.size)→j<i→tJ (s.data[j]'h)=true)∧S'=S∧
  e=[(1,af i),(4,z0),(0,.str s)]) s.size _ ?_ ⟨0,sM,oM,oM,rfl,rfl⟩ ?_
 .exact ba
 rintro n e S' ⟨i,rfl,hi,cB,rfl,rfl⟩;by_cases h:i<s.size
 .have qfv:=cG i
  have hgo:∀(hn:tJ s.data[i]=true) (j:Nat) (hj:j<s.size),j<i+1->tJ (s.data[j]'hj)=true:=λhn j hj rl=>by
   by_cases fg:j=i
   .subst fg;exact hn
   .exact cB j hj oM
  simp[h,Nv h];refine aZ (qkG _ S') ?_
  cases hL:qK (s.data[i]'h).toNat with
  |true=>
   simp[qfv];refine⟨_,?_,_,?_,i+1,rfl,oM,?_,rfl⟩
   .omega
   .exact ba
   .have:=hgo (by simp only[tJ,hL,Bool.true_or]);simpa using this
  |false=>
   simp[h,Nv h];refine aZ (qwX _ S') ?_
   cases hD:vp (s.data[i]'h).toNat with
   |true=>
    simp[qfv];refine⟨_,?_,_,?_,i+1,rfl,oM,?_,rfl⟩
    .omega
    .exact ba
    .have:=hgo (by simp only[tJ,hD,Bool.or_true]);simpa using this
   |false=>
    simp;refine bu rfl ⟨⟨i,rfl,?_⟩,rfl⟩;constructor
    .intro hh;omega
    .intro hh;rw[PL]at hh;have:=hh i oM;rw[Array.getElem_toList]at this;simp only[tJ,hL,hD]at this;cases this
 .simp[h];refine bu rfl ⟨⟨i,rfl,?_⟩,rfl⟩;constructor
  .intro _;rw[PL];intro j hj;have:=cB j oM oM;simpa using this
  .intro _;omega
def QP:List UInt8->Bool
 |[]=>false
 |c::_=>qK c.toNat
def aH(s:Bz):Bool:=decide (1<=s.size)&&decide (s.size<=16)&&QP s.data.toList&&!eJ s uh&&As s.data.toList
def SU{s:Bz}:s=⟨⟨[]⟩⟩↔s.size=0:=by
 constructor
 .rintro rfl;rfl
 .intro h;refine vT ?_;exact Array.eq_empty_of_size_eq_zero h
def qhb{s:Bz}(h1:0<s.size)(h2:s.size<=16):aH s=(qK (s.data[0]'h1).toNat&&!eJ s uh&&As s.data.toList):=by
 unfold aH;rw[pf (show 1<=s.size from h1),pf h2];have LL:0<s.data.toList.length:=by simpa using h1
 have:∀(l:List UInt8) (h:0<l.length),QP l=qK (l[0]).toNat:=λl h=>by
  cases l with
  |nil=>cases h
  |cons c cs=>rfl
 rw[this _ LL,Array.getElem_toList];rfl
def S7(s:Bz)(S:St):Fn prog 57 [.str s] S (.bool (aH s)):=by
 refine aA.ib O4 ?_;by_cases h0:s.size=0
 .have Df:=SU.2 h0;simp[O4,Df];exact bu rfl ⟨rfl,rfl⟩
 have Df:¬s=⟨⟨[]⟩⟩:=λhh=>h0 (SU.1 hh)
 by_cases h1:(16:Int)<s.size
 .simp[O4,Df,h1];refine bu rfl ⟨?_,rfl⟩;simp[aH];omega
 have hi:=qgh (s:=s) oM;simp[O4,Df,h1,hi];refine aZ (qkf _ S) ?_;have hn:=qhb (s:=s) oM oM
 cases hL:qK (s.data[0]'(Nat.pos_of_ne_zero h0)).toNat with
 |false=>
  simp;refine bu rfl ⟨?_,rfl⟩;rw[hn,hL];rfl
 |true=>
  simp;refine aZ (qwO s S) ?_
  cases hW:eJ s uh with
  |true=>
   simp;refine bu rfl ⟨?_,rfl⟩;rw[hn,hL,hW];rfl
  |false=>
   simp[bI,Vo];refine aZ (qwP false s.data.toList S (by rw[yT];have:s.data.size=s.size:=rfl;omega)) ?_;simp;refine bu rfl ⟨?_,rfl⟩;rw[hn,hL,hW];simp
def vE(s:Bz)(S:St):Fn prog 21 [.str s] S (.bool (aH s)):=by
 refine aA.ib O1 ?_;by_cases h0:s.size=0
 .simp[O1,h0];refine bu rfl ⟨?_,rfl⟩;simp[aH,h0]
 by_cases h1:(16:Int)<s.size
 .simp[O1,h0,h1,show ¬((s.size:Int)<1) by omega];refine bu rfl ⟨?_,rfl⟩;simp[aH];omega
 have hi:=qgh (s:=s) oM;simp[O1,h0,h1,hi,show ¬((s.size:Int)<1) by omega];refine aZ (qkG _ S) ?_;have hn:=qhb (s:=s) oM oM
 cases hL:qK (s.data[0]'(Nat.pos_of_ne_zero h0)).toNat with
 |false=>
  simp;refine bu rfl ⟨?_,rfl⟩;rw[hn,hL];rfl
 |true=>
  simp;refine aZ (qyc s S) ?_
  cases hW:eJ s uh with
  |true=>
   simp;refine bu rfl ⟨?_,rfl⟩;rw[hn,hL,hW];rfl
  |false=>
   simp;refine bE (qyd s S oM) ?_;rintro v S' ⟨⟨i,rfl,eI⟩,rfl⟩;simp;refine bu rfl ⟨?_,rfl⟩;rw[hn,hL,hW];simp only[aY,V.bool.injEq,rO,Ks];rw[eR,<-eI];simp
def ZO{a b:Bz}(h:a.size+b.size<=1000000):vF .add a b=some (.str (a++b)):=by
 simp only[vF];rw[ak];rw[show IntKind.i64.max=9223372036854775807 by rfl];omega
theorem qdX(x:Bool)(n:Int)(S:St):H9 S (.sl x [.int .u8 n])=some (.str ⟨[UInt8.ofNat n.toNat].toArray⟩):=rfl
def qmZ(a b:List UInt8):(⟨a.toArray⟩:Bz)++(⟨b.toArray⟩:Bz)=⟨(a++b).toArray⟩:=by
 apply vT;apply xz;simp
def qzx{n:Int}(h0:0<=n)(h1:n<256):IntKind.u8.wrap n=n:=by
 simp[IntKind.wrap,IntKind.bits,IntKind.signed];omega
def Qb(n:Nat)(h:n<1000):(iZ n).length<=4:=(Vs oM).2
def qnI(m:Nat):IntKind.u8.wrap (IntKind.i64.wrap (48+((m:Int)).tmod 10))=((48+m%10:Nat):Int):=by
 have:((m:Int)).tmod 10=((m%10:Nat):Int):=by
  rw[Int.tmod_eq_emod_of_nonneg oM];omega
 rw[this,fO oM oM,qzx oM oM];omega
def Fz(n:Nat):UInt8:=UInt8.ofNat (48+n%10)
def qd9(m:Nat):UInt8.ofNat (IntKind.u8.wrap (IntKind.i64.wrap (48+((m:Int)).tmod 10))).toNat=Fz m:=by rw[qnI];rfl
def qea{n:Nat}(h:n<10):[Fz n]=iZ n:=by rw[Ax h];unfold Fz;rw[KQ h]
def qeb{n:Nat}(h:¬n<10):iZ (n/10)++[Fz n]=iZ n:=(AA h).symm
def qnL(m:Nat)(h:m<1000000):IntKind.i64.wrap ((m:Int)/10)=((m/10:Nat):Int):=by
 rw[fO oM oM];omega
def qmY(b:UInt8)(a:List UInt8):(⟨#[b]⟩:Bz)++(⟨a.toArray⟩:Bz)=⟨(b::a).toArray⟩:=qmZ [b] a
def qym(n:Nat)(hn:n<1000)(S:St):Fn prog 94 [af n] S (.str ⟨(iZ n).toArray⟩):=by
 refine aA.ib C94 ?_;simp[C94,V.size,V.cells,V.flat,fits,bI,qdX];rw[qd9];refine cE (λk e S'=>∃(m:Nat) (acc:List UInt8),k=m∧m≤n∧acc.length≤4∧(if m<10 then acc=iZ n else iZ (m / 10)++acc=iZ n)∧S'=S∧
  e=[(0,af m),(3,.str ⟨acc.toArray⟩),(2,.str ⟨⟨[]⟩⟩)]) n [(0,af n),(3,.str ⟨[Fz n].toArray⟩),(2,.str ⟨⟨[]⟩⟩)] ?_ ⟨n,[Fz n],rfl,oM,sM,?_,rfl,rfl⟩ ?_
 .exact ba
 .split
  .rename_i h;exact qea h
  .rename_i h;exact qeb h
 rintro m e S' ⟨_,acc,rfl,hm,FR,ha,rfl,rfl⟩;by_cases h:m<10
 .rw[ak h]at ha;subst ha;simp[show ¬((9:Int)<(m:Int)) by omega];exact bu rfl ⟨rfl,rfl⟩
 .rw[au h]at ha
  have qp8:acc.length+1<=4:=by
   have h1:=mn List.length ha;rw[dx]at h1;have h2:=Qb n hn;have h3:=(Vs (n:=m/10) oM).1;omega
  simp[show((9:Int)<(m:Int)) by omega,V.size,V.cells,V.flat,fits,bI,qdX];rw[qnL m oM,qd9,ZO (by simp[ByteArray.size];omega),qmY];simp;refine⟨m/10,?_,_,?_,oM,Fz (m/10)::acc,by simpa using qp8,?_,rfl⟩
  .omega
  .exact ba
  .split
   .rename_i h';rw[<-ha,<-qea h'];rfl
   .rename_i h';rw[<-ha,<-qeb h'];simp
def je(s:Bz)(taken:List Bz)(t:Bz):Prop:=
 (s∉taken/\t=s)\/(s∈taken/\∃n,1<=n/\t=jl s n/\jl s n∉taken/\∀i,1<=i->i<n->jl s i∈taken)
def je.unique{s:Bz}{taken:List Bz}{t u:Bz}(h:je s taken t)(g:je s taken u):t=u:=by
 rcases h with ⟨h1,rfl⟩|⟨h1,n,hn,rfl,hf,ha⟩<;>rcases g with ⟨g1,rfl⟩|⟨g1,m,hm,rfl,gf,gb⟩
 .rfl
 .exact absurd g1 h1
 .exact absurd h1 g1
 .have h2:¬n<m:=λaB=>hf (gb n hn aB)
  have h3:¬m<n:=λaB=>gf (ha m hm aB)
  rw[show n=m by omega]
def qka{s:Bz}{k:Nat}(hk:k<=s.size)(S:St):kO S 0 (.str s) none (some (k:Int))=some (.str (s.extract 0 k)):=by
 simp[kO,hk]
def qdJ(s:Bz)(n:Nat):s.extract 0 (min s.size (16-(iZ n).length))++(⟨(iZ n).toArray⟩:Bz)=jl s n:=by
 apply vT;apply xz;simp[jl]
def S9(m:Nat):(⟨(iZ m).toArray⟩:Bz).size=(iZ m).length:=by simp[ByteArray.size]
def qg2(a d:Nat)(hd:d<=4):(if IntKind.i64.wrap (16-(d:Int))<(a:Int) then IntKind.i64.wrap (16-(d:Int)) else(a:Int))=((min a (16-d):Nat):Int):=by
 rw[fO oM oM];split<;>omega
def kv(s:Bz):V×V:=(.str s,.bool true)
def RO(s:Bz):∀(ks:List Bz) (i:Nat),(s∉ks/\mD .str (.str s) (ks.map kv) i=some none)\/(s∈ks/\∃j:Nat,ks[j]?=some s/\mD .str (.str s) (ks.map kv) i=some (some (i+j,.bool true)))
 |[],i=>.inl ⟨sM,rfl⟩
 |k::ks,i=>by
  simp only[cQ,kv,mD,sF];by_cases h:s=k
  .subst h;refine .inr ⟨sM,0,rfl,?_⟩;simp
  .have bZ:(s.data.toList==k.data.toList)=false:=by
    rw[beq_eq_false_iff_ne];intro hh;exact h (vT (xz hh))
   rw[bZ];simp only;rcases RO s ks (i+1) with ⟨h1,h2⟩|⟨h1,j,h2,h3⟩
   .exact .inl ⟨by simp[h,h1],h2⟩
   .refine .inr ⟨by simp[h1],j+1,by simpa using h2,?_⟩;rw[show i+(j+1)=i+1+j by omega];exact h3
def eo(ks:List Bz)(s:Bz):List Bz:=if eJ s ks=true then ks else ks++[s]
def qsd{ks:List Bz}{s x:Bz}:x∈eo ks s↔x∈ks\/x=s:=by
 unfold eo;split
 .exact⟨.inl,λhh=>hh.elim id λhh=>by rw[hh];exact mU.1 (by assumption)⟩
 .simp
def qi{x:Bz}:∀{l ks:List Bz},x∈l.foldl eo ks↔x∈ks\/x∈l
 |[],ks=>by simp
 |s::l,ks=>by rw[uD,qi,qsd,dU,or_assoc]
def ii(bs:List Nat)(ck:Nat):Prop:=(∀b,b∈bs->b<ck)/\bs.Nodup
def ii.nil:ii [] 0:=⟨sM,uF⟩
def ii.snoc{bs:List Nat}{ck:Nat}(h:ii bs ck):ii (bs++[ck]) (ck+1):=⟨λb hb=>by
 rcases cU.1 hb with hb|hb
 .have:=h.1 b hb;omega
 .simp at hb;omega,HO.2 ⟨h.2,sM,λa ha b hb=>by simp at hb;subst hb;have:=h.1 a ha;omega⟩⟩
def qg9{S:St}{l:Nat}{ks:List Bz}{bs:List Nat}{ck:Nat}(s:Bz)(h:S[l]?=some (.map (ks.map kv) bs ck)):
  ∃(fA:List Nat) (iw:Nat),og S .str (.map l) (.str s) (.bool true)=some (S.set l (.map ((eo ks s).map kv) fA iw))/\(ii bs ck->ii fA iw)/\(bs.length=ks.length->fA.length=(eo ks s).length):=by
 unfold og;rw[ak (by rfl)];simp only[h];unfold eo;rcases RO s ks 0 with ⟨h1,h2⟩|⟨h1,j,h2,h3⟩
 .rw[h2,au (λhh=>h1 (mU.1 hh))];exact⟨bs++[ck],ck+1,by simp[kv],ii.snoc,λh=>by simp[h]⟩
 .rw[h3,ak (mU.2 h1)];refine⟨bs,ck,?_,id,id⟩;simp only[mg]
  have:(ks.map kv).set j (.str s,.bool true)=ks.map kv:=by
   apply vV;intro i;rw[Pm];split
   .rename_i pC;subst pC;have:=(br.1 h2).1;have h4:=(br.1 h2).2;simp[kv,this,h4]
   .rfl
  rw[this]
def RL{S:St}{l:Nat}{ks:List Bz}{bs:List Nat}{ck:Nat}(s:Bz)(h:S[l]?=some (.map (ks.map kv) bs ck)):sJ S .str (.bool false) false (.map l) (.str s)=some (.bool (eJ s ks)):=by
 unfold sJ;rw[ak (by rfl)];simp only[DZ,h];rcases RO s ks 0 with ⟨h1,h2⟩|⟨h1,j,h2,h3⟩
 .rw[h2,zB.2 h1];rfl
 .rw[h3,mU.2 h1];rfl
def qj3{α:Type}{l:List α}{i:Nat}{x:α}(h:l[i]?=some x):l.set i x=l:=by
 apply vV;intro j;rw[Pm];split
 .rename_i pC;subst pC;rw[h];have:=(br.1 h).1;simp[this]
 .rfl
def qtv{S:St}{l:Nat}{ks:List Bz}{bs:List Nat}{ck:Nat}(s:Bz)(h:S[l]?=some (.map (ks.map kv) bs ck)):
  ∃(fA:List Nat) (iw:Nat),og S .str (.map l) (.str s) (.bool true)=some (S.set l (.map ((eo ks s).map kv) fA iw))/\(ii bs ck->ii fA iw):=by
 obtain⟨fA,iw,a,b,_⟩:=qg9 s h;exact⟨fA,iw,a,b⟩
def qkL(b:Bool)(taken ks:List Bz)(bs:List Nat)(ck:Nat)(l:Nat)(S:St)(ht:taken.length<=1000000)(hl:S[l]?=some (.map (ks.map kv) bs ck)):
  aA prog 79 [.map l,.sl b (taken.map .str)] S (λv U=>∃(fA:List Nat) (iw:Nat),(ii bs ck->ii fA iw)/\(bs.length=ks.length->fA.length=(taken.foldl eo ks).length)/\U=S.set l (.map ((taken.foldl eo ks).map kv) fA iw)):=by
 have aB:l<S.length:=(br.1 hl).1;refine aA.ib C79 ?_;simp[C79];refine cE (λk e S'=>∃i:Nat,k=taken.length - i∧i≤taken.length∧(∃(fA:List Nat) (iw:Nat),(ii bs ck→ii fA iw)∧(bs.length=ks.length→fA.length=((taken.take i).foldl eo ks).length)∧S'=S.set l (.map (((taken.take i).foldl eo ks).map kv) fA iw))∧
  e=[(8,af i),(7,af taken.length),(6,.sl b (taken.map .str)),(0,.map l),(1,.sl b (taken.map .str))]) taken.length _ ?_ ⟨0,sM,oM,⟨bs,ck,id,sM,?_⟩,rfl⟩ ?_
 .exact ba
 .exact(qj3 hl).symm
 rintro k e S' ⟨i,rfl,hi,⟨bs1,ck1,bg,W5,rfl⟩,rfl⟩;by_cases h:i<taken.length
 .obtain⟨fA,iw,hm,zu,W6⟩:=qg9 (S:=S.set l (.map (((taken.take i).foldl eo ks).map kv) bs1 ck1)) (l:=l) taken[i] (bO aB);rw[List.set_set]at hm;simp[h,oR,bI,hm];refine⟨_,?_,_,?_,i+1,rfl,oM,⟨fA,iw,λh=>zu (bg h),λh0=>?_,?_⟩,rfl⟩
  .omega
  .rw[fO oM oM];exact ba
  .rw[dN,bX h,iP,uz];exact W6 (W5 h0)
  .rw[dN,bX h,iP,uz];rfl
 .simp[h];rw[mJ oM]at W5;refine mM rfl ⟨bs1,ck1,bg,W5,?_⟩;rw[mJ oM]
def ZC(b:Bool)(taken ks:List Bz)(bs:List Nat)(ck:Nat)(l:Nat)(S:St)(ht:taken.length<=1000000)(hl:S[l]?=some (.map (ks.map kv) bs ck)):
  aA prog 79 [.map l,.sl b (taken.map .str)] S (λv U=>∃(fA:List Nat) (iw:Nat),(ii bs ck->ii fA iw)/\U=S.set l (.map ((taken.foldl eo ks).map kv) fA iw)):=
 aA.mono (qkL b taken ks bs ck l S ht hl) λ_ _ ⟨a,c,d,_,e⟩=>⟨a,c,d,e⟩
end Go.Proofs.YtbifpocccfkhhaaGreatDoor
end
