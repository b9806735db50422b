/- A part. -/
import Derived.Test.YtbifpocccfkhhaaGreatDoorYc
import Derived.Lib.ItoaMem
import Derived.Shelf.Small.Bits
import Derived.Shelf.Strconv.Itoa0
import Derived.Shelf.Strconv.Itoa1
import Derived.Shelf.LaysM
import Derived.Shelf.Strconv.Itoa2
import Derived.Shelf.Strconv.Itoa3
import Derived.Test.YtbifpocccfkhhaaGreatDoorProg
set_option linter.all false
noncomputable section
namespace Go.Proofs.YtbifpocccfkhhaaGreatDoor
open Go
def fF{α:Type}(o:Option α)(c:α->Bool):Bool:=Option.rec false c o
def iM{α:Type}{o:Option α}{c:α->Bool}(h:fF o c=true):∃v,o=some v/\c v=true:=by
 cases o with
 |none=>cases h
 |some v=>exact⟨v,rfl,h⟩
def gJ{a b:Bool}(h:ee a b=true):a=true/\b=true:=by rw[HU,cT]at h;exact h
def fL{a b:Bool}(h:bM a b false=true):a=true/\b=true:=by cases a<;>first|exact⟨rfl,h⟩|cases h
def lr{a b:Nat}(h:Nat.ble a b=true):a<=b:=qA h
def kh{a b:Nat}(h:Nat.beq a b=true):a=b:=Nat.eq_of_beq_eq_true h
def eC(x:bK)(tr:TE)(c:V->Bool):Bool:=bK.rec (λn=>fF (Tx.get (path n) tr) c) (λv=>c v) (λf=>c (.fn (.func f) [] [])) x
def eK{x:bK}{tr:TE}{e:ae}{c:V->Bool}(ht:tr.sub e)(h:eC x tr c=true):∃v,x.ev e=some v/\c v=true:=by
 cases x with
 |t n=>
  obtain⟨v,h1,h2⟩:=iM (show fF (Tx.get (path n) tr) c=true from h);exact⟨v,ht n v h1,h2⟩
 |c v=>exact⟨v,rfl,h⟩
 |f k=>exact⟨_,rfl,h⟩
def CV(xs:List bK)(tr:TE):(List V->Bool)->Bool:=List.rec (motive:=λ_=>(List V->Bool)->Bool) (λc=>c []) (λx _ ih c=>eC x tr λv=>ih λvs=>c (v::vs)) xs
def AC{tr:TE}{e:ae}(ht:tr.sub e):∀{xs:List bK} {c:List V->Bool},CV xs tr c=true->∃vs,mr e xs=some vs/\c vs=true
 |[],c,h=>⟨[],rfl,h⟩
 |x::xs,c,h=>by
  obtain⟨v,h1,h2⟩:=eK (c:=λv=>CV xs tr λvs=>c (v::vs)) ht h;obtain⟨vs,h3,h4⟩:=AC ht h2;exact⟨v::vs,by simp only[mr,h1,h3],h4⟩
def O9(e:ae)(S:St)(k:K)(c:V->TS->Bool):Prop:=∃r S' aM,cf e S k=some (r,S')/\aM.cO S'/\c r aM=true
def J5(k:IntKind)(x:Int):Int:=Int.rec (λm=>IntKind.rec (k.wrap (Int.ofNat m)) (k.wrap (Int.ofNat m)) (k.wrap (Int.ofNat m)) (bM (Nat.ble m 9223372036854775807) (Int.ofNat m) (k.wrap (Int.ofNat m))) (k.wrap (Int.ofNat m)) (k.wrap (Int.ofNat m)) (k.wrap (Int.ofNat m)) (k.wrap (Int.ofNat m)) k) (λm=>k.wrap (Int.negSucc m)) x
def qlm(k:IntKind)(x:Int):J5 k x=k.wrap x:=by
 cases x with
 |negSucc m=>rfl
 |ofNat m=>
  cases k<;>try rfl
  show bM (Nat.ble m 9223372036854775807) (Int.ofNat m) (IntKind.i64.wrap (Int.ofNat m))=_;rw[j9];split
  .rename_i h;have:=lr h;have h1:(Int.ofNat m)%(2^IntKind.i64.bits:Int)=Int.ofNat m:=Int.emod_eq_of_lt sM (by show(m:Int)<2^64;omega);have h2:¬((m:Int)>=2^63):=oM;unfold IntKind.wrap;simp only[h1];rw[au];intro hh;rw[cT,decide_eq_true_iff]at hh;exact h2 hh.2
  .rfl
def qdj(a b:Int):Int:=Int.rec (λm=>Int.rec (λn=>Int.ofNat (Nat.add m n)) (λ_=>a+b) b) (λ_=>a+b) a
def qmd(a b:Int):qdj a b=a+b:=by cases a<;>cases b<;>rfl
def qkW(a b:Int):Int:=Int.rec (λm=>Int.rec (λn=>bM (Nat.ble n m) (Int.ofNat (Nat.sub m n)) (a-b)) (λ_=>a-b) b) (λ_=>a-b) a
def qyI(a b:Int):qkW a b=a-b:=by
 cases a<;>cases b<;>try rfl
 rename_i m n;show bM (Nat.ble n m) (Int.ofNat (Nat.sub m n)) (Int.ofNat m-Int.ofNat n)=_;rw[j9];split
 .rename_i h;have:=lr h;show((m-n:Nat):Int)=(m:Int)-(n:Int);omega
 .rfl
def qg8(a b:Int):Int:=Int.rec (λm=>Int.rec (λn=>Int.ofNat (Nat.mul m n)) (λ_=>a*b) b) (λ_=>a*b) a
def qts(a b:Int):qg8 a b=a*b:=by cases a<;>cases b<;>rfl
def NM(a b:Int):Bool:=Int.rec (λm=>Int.rec (λn=>Nat.ble (Nat.succ m) n) (λ_=>false) b) (λm=>Int.rec (λ_=>true) (λn=>Nat.ble (Nat.succ n) m) b) a
def HZ{a b:Nat}:Nat.ble a b=true↔a<=b:=⟨lr,λh=>Nat.ble_eq_true_of_le h⟩
def qte(a b:Int):NM a b=decide (a<b):=by
 rw[eR,decide_eq_true_iff]
 cases a with
 |ofNat m=>cases b with
  |ofNat n=>show Nat.ble (Nat.succ m) n=true↔_;rw[HZ];simp;omega
  |negSucc n=>show false=true↔_;simp;omega
 |negSucc m=>cases b with
  |ofNat n=>show true=true↔_;simp;omega
  |negSucc n=>show Nat.ble (Nat.succ n) m=true↔_;rw[HZ];simp[Int.negSucc_eq];omega
def Lq(a b:Int):Bool:=Int.rec (λm=>Int.rec (λn=>Nat.beq m n) (λ_=>false) b) (λm=>Int.rec (λ_=>false) (λn=>Nat.beq m n) b) a
def qoc(a b:Int):Lq a b=decide (a=b):=by
 rw[eR,decide_eq_true_iff]
 cases a with
 |ofNat m=>cases b with
  |ofNat n=>show Nat.beq m n=true↔_;rw[Nat.beq_eq];exact⟨λh=>by rw[h],λh=>Int.ofNat.inj h⟩
  |negSucc n=>show false=true↔_;simp
 |negSucc m=>cases b with
  |ofNat n=>show false=true↔_;simp
  |negSucc n=>show Nat.beq m n=true↔_;simp
def qjs(a b:Int):Int:=Int.rec (λm=>Int.rec (λn=>Int.ofNat (Nat.div m n)) (λ_=>a.tdiv b) b) (λ_=>a.tdiv b) a
def qvm(a b:Int):qjs a b=a.tdiv b:=by cases a<;>cases b<;>rfl
def qjv(a b:Int):Int:=Int.rec (λm=>Int.rec (λn=>Int.ofNat (Nat.mod m n)) (λ_=>a.tmod b) b) (λ_=>a.tmod b) a
def qvu(a b:Int):qjv a b=a.tmod b:=by cases a<;>cases b<;>rfl
def sP(b:Bool):Bool:=Bool.rec true false b
def JE(b:Bool):sP b=!b:=by cases b<;>rfl
def Rw(op:BinOp)(k:IntKind)(a b:Int):Option V:=
 match op with
 |.add=>some (.int k (J5 k (qdj a b)))
 |.sub=>some (.int k (J5 k (qkW a b)))
 |.mul=>some (.int k (J5 k (qg8 a b)))
 |.quo=>bM (Lq b 0) none (some (.int k (J5 k (qjs a b))))
 |.rem=>bM (Lq b 0) none (some (.int k (qjv a b)))
 |.eql=>some (.bool (Lq a b))
 |.neq=>some (.bool (sP (Lq a b)))
 |.lss=>some (.bool (NM a b))
 |.leq=>some (.bool (sP (NM b a)))
 |.gtr=>some (.bool (NM b a))
 |.geq=>some (.bool (sP (NM a b)))
 |op=>GA op k a b
def qsg(op:BinOp)(k:IntKind)(a b:Int):Rw op k a b=GA op k a b:=by
 cases op<;>simp only[Rw,GA,qlm,qmd,qyI,qts,qoc,qte,JE,qvm,qvu,j9,dT]
 all_goals first
  |rfl
  |(congr 2;rw[<-decide_not];congr 1;simp)
def ZM(op:BinOp)(a b:Bz):Option V:=
 match op with
 |.eql=>some (.bool (yM a b))
 |.neq=>some (.bool (sP (yM a b)))
 |op=>vF op a b
def qkU(op:BinOp)(a b:Bz):ZM op a b=vF op a b:=by
 cases op<;>simp only[ZM,vF,qkR,JE]
def X0(k k':IntKind):Bool:=Nat.beq (IntKind.rec 0 1 2 3 4 5 6 7 k) (IntKind.rec 0 1 2 3 4 5 6 7 k')
def qsw{k k':IntKind}(h:X0 k k'=true):k=k':=by cases k<;>cases k'<;>first|rfl|cases h
def Ry(op:BinOp):Bool:=match op with|.shl=>true|.shr=>true|_=>false
def UL(op:BinOp)(x y:V)(c:V->Bool):Bool:=
 match x with
 |.int k a=>match y with
  |.int k' b=>bM (Ry op) (fF (SS op k a b) c) (bM (X0 k k') (fF (Rw op k a b) c) false)
  |_=>false
 |.str a=>match y with
  |.str b=>fF (ZM op a b) c
  |_=>false
 |_=>false
def qmK{op:BinOp}{x y:V}{c:V->Bool}(h:UL op x y c=true):∃r,CO op x y=some r/\c r=true:=by
 unfold UL at h;split at h
 .split at h
  .rename_i k a k' b;rw[j9]at h;simp only[CO];split at h
   .rename_i hs;rw[ak (by cases op<;>simp[Ry]at hs |-)];exact iM h
   .rename_i hs;obtain⟨h1,h2⟩:=fL h;rw[au (by cases op<;>simp[Ry]at hs |-),ak (qsw h1)];rw[qsg]at h2;exact iM h2
  .cases h
 .split at h
  .rw[qkU]at h;exact iM h
  .cases h
 .cases h
def JH(v:V)(off:Nat)(k:Option Nat):Option V:=
 Option.rec (Ef v.cells off) (λn=>bM (ee (Nat.beq off 0) (ee (Nat.beq n (rI v)) v.isAgg)) (some v) (match v with
  |.agg cs=>bM (Nat.ble (Nat.add off n) (jn cs)) (some (.agg (BH (AB cs off) n))) none
  |_=>none)) k
def HW{a b:Nat}:Nat.beq a b=true↔a=b:=⟨kh,λh=>by subst h;simp⟩
def NY(v:V)(off:Nat)(k:Option Nat):JH v off k=v.part off k:=by
 cases k with
 |none=>exact GY _ _
 |some n=>
  show bM (ee (Nat.beq off 0) (ee (Nat.beq n (rI v)) v.isAgg)) (some v) _=_;simp only[V.part,j9,HU,cT,HW,zW];split
  .rfl
  .split
   .rename_i cs;rw[rz,Hq,FC];simp only[HZ];rfl
   .rename_i bZ;cases v<;>first|rfl|exact absurd rfl (bZ _)
def OK(v:V)(off n:Nat)(x:V):Option V:=
 bM (ee (Nat.beq (rI x) n) (Ip x.cells)) (bM (ee (Nat.beq off 0) (Nat.beq n (rI v))) (some x) (match v with
  |.agg cs=>bM (Nat.ble (Nat.add off n) (jn cs)) (some (.agg (ji (BH cs off) (ji x.cells (AB cs (Nat.add off n)))))) none
  |_=>none)) none
def qk4(v:V)(off n:Nat)(x:V):OK v off n x=v.fZ off n x:=by
 simp only[OK,V.fZ,j9,HU,cT,HW,zW,Ly];split
 .split
  .rfl
  .split
   .rename_i cs;rw[rz,Hq,FC,oC,oC];simp only[HZ,dY];rfl
   .rename_i bZ;cases v<;>first|rfl|exact absurd rfl (bZ _)
 .rfl
def ND(p:V)(k:Option Nat)(ts:TS)(c:V->Bool):Bool:=
 match p with
 |.cq v off=>fF (JH v off k) c
 |.ptr l i off st=>ts.get l λo=>match o with
  |.arr xs _ wr=>bM (ee (Nat.ble wr st) (Nat.ble (Nat.succ i) st)) (fF (Ef xs i) λv=>fF (JH v off k) c) false
  |_=>false
 |.dE g off=>fF (IC g off) λq=>fF (JH (.int q.1 q.2) 0 k) c
 |_=>false
def qgI{p:V}{k:Option Nat}{ts:TS}{S:St}{c:V->Bool}(hs:ts.cO S)(h:ND p k ts c=true):∃v,ab S p k=some v/\c v=true:=by
 unfold ND at h;split at h
 .rw[NY]at h;exact iM h
 .obtain⟨o,h1,h2⟩:=TS.mw hs h;split at h2<;>try cases h2
  have h1:=Ey h1;obtain⟨h3,h4⟩:=fL h2;obtain⟨h5,h6⟩:=gJ h3;obtain⟨v,h7,h8⟩:=iM h4;rw[GY]at h7;rw[NY]at h8;obtain⟨r,h9,Dh⟩:=iM h8;simp only[ab,h1];exact⟨r,by rw[ak ⟨lr h5,lr h6⟩,h7];exact h9,Dh⟩
 .obtain⟨q,h1,h2⟩:=iM h;obtain⟨r,h3,h4⟩:=iM h2;rw[NY]at h3;exact⟨r,by simp only[ab,h1];exact h3,h4⟩
 .cases h
def ZH(p:V)(n:Nat)(x:V)(ts:TS)(c:TS->Bool):Bool:=
 match p with
 |.ptr l i off st=>ts.get l λo=>match o with
  |.arr xs sz _=>bM (Nat.beq st (jn xs)) (fF (Ef xs i) λv=>fF (OK v off n x) λv'=>c (ts.set l (.arr (SQ v' xs i) sz st))) false
  |_=>false
 |_=>false
def qyt{p x:V}{n:Nat}{ts:TS}{S:St}{c:TS->Bool}(hs:ts.cO S)(h:ZH p n x ts c=true):∃S' aM,aI S p n x=some S'/\aM.cO S'/\c aM=true:=by
 unfold ZH at h;split at h<;>try cases h
 obtain⟨o,h1,h2⟩:=TS.mw hs h;split at h2<;>try cases h2
 have h1:=Ey h1;obtain⟨h3,h4⟩:=fL h2;obtain⟨v,h5,h6⟩:=iM h4;obtain⟨v',h7,h8⟩:=iM h6;rw[rz]at h3;rw[GY]at h5;rw[qk4]at h7;rw[Zd]at h8;refine⟨_,_,?_,TS.Eu hs h1,h8⟩;simp only[aI,h1];rw[ak (kh h3),h5];simp only[gG,h7,fG]
def PY(x:V)(ts:TS)(c:V->TS->Bool):Bool:=
 bM (ee (Ip x.cells) (Nat.ble 1 (rI x))) (qF ts.len λn=>c (.ptr n 0 0 1) (TS.push ⟨n,ts.tr⟩ (.arr [x] (rI x) 1))) false
def qdB{x:V}{ts:TS}{S:St}{c:V->TS->Bool}(hs:ts.cO S)(h:PY x ts c=true):∃r S' aM,aL S x=some (r,S')/\aM.cO S'/\c r aM=true:=by
 unfold PY at h;obtain⟨h1,h2⟩:=fL h;obtain⟨h3,h4⟩:=gJ h1;rw[xW]at h2;rw[Ly]at h3;rw[zW]at h4 h2;refine⟨_,_,_,?_,TS.JJ (o:=.arr [x] x.size 1) hs,h2⟩;simp only[aL];rw[ak ⟨h3,lr h4⟩,hs.1]
def Qf(v:V)(ts:TS)(c:List V->Bool):Bool:=
 match v with
 |.sl _ xs=>c xs
 |.arr l off len st=>ts.get l λo=>match o with
  |.arr xs _ wr=>bM (ee (Nat.ble wr st) (Nat.ble (Nat.add off len) st)) (c (BH (AB xs off) len)) false
  |_=>false
 |_=>false
def qem{v:V}{ts:TS}{S:St}{c:List V->Bool}(hs:ts.cO S)(h:Qf v ts c=true):∃xs,elems S v=some xs/\c xs=true:=by
 unfold Qf at h;split at h
 .exact⟨_,rfl,h⟩
 .obtain⟨o,h1,h2⟩:=TS.mw hs h;split at h2<;>try cases h2
  have h1:=Ey h1;obtain⟨h3,h4⟩:=fL h2;obtain⟨h5,h6⟩:=gJ h3;rw[Hq,FC]at h4;simp only[elems,h1];exact⟨_,ak ⟨lr h5,lr h6⟩,h4⟩
 .cases h
def Lx(sz:Nat)(ys:List V):Bool:=xM (λy=>ee (Nat.beq (rI y) sz) (Ip y.cells)) ys
def JB(a b:Nat):Nat.beq a b=(a==b):=by rw[eR,Nat.beq_eq];simp
def VP(sz:Nat)(ys:List V):Lx sz ys=fits sz ys:=by
 simp only[Lx,fits,CM,HU,zW,Ly,JB]
def GF{α:Type}(l:List α):Bool:=List.rec true (λ_ _ _=>false) l
def XQ{α:Type}(l:List α):GF l=l.isEmpty:=by cases l<;>rfl
def Ux(sz bytes:Nat)(d x:V)(ts:TS)(c:V->TS->Bool):Bool:=
 Qf x ts λys=>match d with
  | .sl e xs=>bM (GF ys) (c d ts) (bM (ee e (ee (Lx sz ys) (ee (xM (λv=>Nat.beq (rI v) sz) xs) (Nat.ble (Nat.mul (Nat.add (jn xs) (jn ys)) bytes) 140737488355328))))
    (qF ts.len λn=>qF (Nat.add (jn xs) (jn ys)) λm=>c (.arr n 0 m m) (TS.push ⟨n,ts.tr⟩ (.arr (ji xs ys) sz m))) false)
  |.arr l off len st=>ts.get l λo=>match o with
   |.arr zs s wr=>qF (jn zs) λlz=>bM (ee (Nat.beq off 0) (ee (Nat.beq len lz) (ee (Nat.beq st lz) (ee (Nat.beq s sz) (ee (Lx sz ys) (Nat.ble (Nat.mul (Nat.add lz (jn ys)) bytes) 140737488355328))))))
     (qF (Nat.add lz (jn ys)) λm=>c (.arr l 0 m m) (ts.set l (.arr (ji zs ys) sz wr))) false
   |_=>false
  |_=>false
def qmu{sz bytes:Nat}{d x:V}{ts:TS}{S:St}{c:V->TS->Bool}(hs:ts.cO S)(h:Ux sz bytes d x ts c=true):∃r S' aM,fV S sz bytes d x=some (r,S')/\aM.cO S'/\c r aM=true:=by
 unfold Ux at h;obtain⟨ys,h1,h2⟩:=qem hs h;simp only[fV,h1];split at h2
 .rw[j9,XQ]at h2;split at h2
  .rename_i hy;exact⟨_,_,ts,ak hy,hs,h2⟩
  .rename_i hy;obtain⟨g1,g2⟩:=fL h2;obtain⟨q1,g3⟩:=gJ g1;obtain⟨q2,g4⟩:=gJ g3;obtain⟨q3,q4⟩:=gJ g4;rw[VP]at q2;rw[CM]at q3;simp only[rz,xW,oC]at g2 q4;have q4:=lr q4;refine⟨_,_,_,?_,TS.JJ hs,g2⟩;show(if ys.isEmpty=true then _ else _)=_;rw[au hy,ak ⟨q1,q2,by simpa only[zW,JB]using q3,q4⟩,hs.1];rfl
 .obtain⟨o,k1,k2⟩:=TS.mw hs h2;split at k2<;>try cases k2
  have k1:=Ey k1;simp only[xW]at k2;obtain⟨g1,g2⟩:=fL k2;obtain⟨q1,g3⟩:=gJ g1;obtain⟨q2,g4⟩:=gJ g3;obtain⟨q3,g5⟩:=gJ g4;obtain⟨q4,g6⟩:=gJ g5;obtain⟨q5,q6⟩:=gJ g6;rw[VP]at q5;simp only[rz,oC]at g2 q2 q3 q6;have q4':=kh q4;subst q4';have q6:=lr q6;simp only[k1];refine⟨_,_,_,ak ⟨kh q1,kh q2,kh q3,trivial,q5,q6⟩,TS.Eu hs k1,?_⟩;exact g2
 .cases h2
def ZK(a b:Bz):Bz:=⟨⟨ji a.data.toList b.data.toList⟩⟩
def qyy(a b:Bz):ZK a b=a++b:=by
 apply ZQ;simp[ZK,oC]
def ZL(s:Bz)(a b:Nat):Bz:=⟨⟨AB (BH s.data.toList b) a⟩⟩
def qyz(s:Bz)(a b:Nat):ZL s a b=s.extract a b:=by
 apply ZQ;simp[ZL,Hq,FC,List.drop_take,List.extract_eq_take_drop]
def Hk(s:Bz):Nat:=jn s.data.toList
def Ze(s:Bz):Hk s=s.size:=by rw[Hk,rz];rfl
def Ym(a:List UInt8):List UInt8->Bool:=List.rec (motive:=λ_=>List UInt8->Bool) (λb=>List.rec false (λ_ _ _=>true) b)
 (λx _ ih b=>List.rec false (λy ys _=>Bool.rec (Bool.rec false (ih ys) (Nat.beq x.toNat y.toNat)) true (Nat.ble (Nat.succ x.toNat) y.toNat)) b) a
def qgV:∀(a b:List UInt8),Ym a b=Op.bytesLess a b
 |[],[]=>rfl
 |[],_::_=>rfl
 |_::_,[]=>rfl
 |x::xs,y::ys=>by
  show(Bool.rec (Bool.rec false (Ym xs ys) (Nat.beq x.toNat y.toNat)) true (Nat.ble (Nat.succ x.toNat) y.toNat):Bool)=_;rw[qgV xs ys,qk3];simp only[Op.bytesLess]
  have hd:Nat.ble (Nat.succ x.toNat) y.toNat=decide (x<y):=by
   rw[eR,decide_eq_true_iff,HZ];exact UInt8.lt_iff_toNat_lt.symm
  rw[hd];cases decide (x<y)<;>cases (x==y)<;>rfl
def JV(a b:Bz):Bool:=Ym a.data.toList b.data.toList
def qyA(a b:Bz):JV a b=zZ a b:=by rw[JV,qgV,zZ,EA,EA]
def ZN(op:BinOp)(a b:Bz):Option V:=
 match op with
 |.eql=>some (.bool (yM a b))
 |.neq=>some (.bool (sP (yM a b)))
 |.add=>bM (Nat.ble (Nat.add (Hk a) (Hk b)) 9223372036854775807) (some (.str (ZK a b))) none
 |.lss=>some (.bool (JV a b))
 |.leq=>some (.bool (bM (JV a b) true (yM a b)))
 |.gtr=>some (.bool (sP (bM (JV a b) true (yM a b))))
 |.geq=>some (.bool (sP (JV a b)))
 |_=>none
def qyB(op:BinOp)(a b:Bz):ZN op a b=vF op a b:=by
 cases op<;>simp only[ZN,vF,qkR,JE,qyA,qyy,Ze,j9]
 .have:(Nat.ble (Nat.add a.size b.size) 9223372036854775807=true)↔(((a.size+b.size:Nat):Int)<=IntKind.i64.max):=by
   rw[HZ];show a.size+b.size<=_↔((a.size+b.size:Nat):Int)<=9223372036854775807;omega
  simp only[this]
 all_goals (congr 2;first|rfl|(cases zZ a b<;>simp))
def UM(op:BinOp)(x y:V)(c:V->Bool):Bool:=
 match x with
 |.int k a=>match y with
  |.int k' b=>bM (Ry op) (fF (SS op k a b) c) (bM (X0 k k') (fF (Rw op k a b) c) false)
  |_=>false
 |.str a=>match y with
  |.str b=>fF (ZN op a b) c
  |_=>false
 |_=>false
def qmJ{op:BinOp}{x y:V}{c:V->Bool}(h:UM op x y c=true):∃r,CO op x y=some r/\c r=true:=by
 refine qmK (op:=op) (x:=x) (y:=y) (c:=c) ?_;unfold UM at h;unfold UL;split at h
 .exact h
 .split at h
  .rw[qyB,<-qkU]at h;exact h
  .cases h
 .cases h
def Vf(ps:List (Nat×Nat×Nat×bK))(tr:TE):V->(V->Bool)->Bool:=List.rec (motive:=λ_=>V->(V->Bool)->Bool) (λz c=>c z) (λp _ ih z c=>eC p.2.2.2 tr λv=>fF (OK z p.2.1 p.2.2.1 v) λz'=>ih z' c) ps
def qdF{tr:TE}{e:ae}(ht:tr.sub e):∀{ps:List (Nat×Nat×Nat×bK)} {z:V} {c:V->Bool},Vf ps tr z c=true->∃l r,bR e ps=some l/\bP z (l.map λp=>p.2)=some r/\c r=true
 |[],z,c,h=>⟨[],z,rfl,rfl,h⟩
 |(f,o,n,x)::ps,z,c,h=>by
  obtain⟨v,h1,h2⟩:=eK (x:=x) (c:=λv=>fF (OK z o n v) λz'=>Vf ps tr z' c) ht h;obtain⟨z',h3,h4⟩:=iM h2;obtain⟨l,r,h5,h6,h7⟩:=qdF ht h4;rw[qk4]at h3;exact⟨(f,o,n,v)::l,r,by simp only[bR,h1,h5],by simp only[cQ,bP,h3,gG,h6],h7⟩
def zz(v:V)(c:Int->Bool):Bool:=match v with|.int _ n=>c n|_=>false
def Gz{v:V}{c:Int->Bool}(h:zz v c=true):∃k n,v=.int k n/\c n=true:=by
 unfold zz at h;split at h
 .exact⟨_,_,rfl,h⟩
 .cases h
def Eb(i:Int)(c:Nat->Bool):Bool:=Int.rec c (λ_=>false) i
def JA{i:Int}{c:Nat->Bool}(h:Eb i c=true):∃m:Nat,i=(m:Int)/\c m=true:=by
 cases i with
 |ofNat m=>exact⟨m,rfl,h⟩
 |negSucc m=>cases h
def Fj(v:V)(c:Bool->Bool):Bool:=match v with|.bool b=>c b|_=>false
def Vb{v:V}{c:Bool->Bool}(h:Fj v c=true):∃b,v=.bool b/\c b=true:=by
 unfold Fj at h;split at h
 .exact⟨_,rfl,h⟩
 .cases h
def XL(sz:Nat)(p:V)(i:Int)(ts:TS)(c:V->Bool):Bool:=
 match p with
 |.sl _ xs=>Eb i λm=>fF (Ef xs m) λv=>bM (Nat.beq (rI v) sz) (c (.cq v 0)) false
 |.arr l off len st=>ts.get l λo=>match o with
  |.arr _ s wr=>Eb i λm=>bM (ee (Nat.ble wr st) (ee (Nat.beq s sz) (Nat.ble (Nat.succ m) len))) (qF (Nat.add off m) λj=>c (.ptr l j 0 st)) false
  |_=>false
 |_=>false
def qr9{sz:Nat}{p:V}{i:Int}{ts:TS}{S:St}{c:V->Bool}(hs:ts.cO S)(h:XL sz p i ts c=true):∃r,gP S sz p i=some r/\c r=true:=by
 unfold XL at h;split at h
 .obtain⟨m,rfl,h1⟩:=JA h;obtain⟨v,h2,h3⟩:=iM h1;obtain⟨h4,h5⟩:=fL h3;rw[GY]at h2;rw[zW]at h4;refine⟨_,?_,h5⟩;simp only[gP];rw[ak (Int.natCast_nonneg m),EU,h2];exact ak (kh h4)
 .obtain⟨o,h1,h2⟩:=TS.mw hs h;split at h2<;>try cases h2
  have h1:=Ey h1;obtain⟨m,rfl,h3⟩:=JA h2;obtain⟨h4,h5⟩:=fL h3;obtain⟨q1,h6⟩:=gJ h4;obtain⟨q2,q3⟩:=gJ h6;rw[xW]at h5;have q3:=lr q3;refine⟨_,?_,h5⟩;simp only[gP,h1,EU];exact ak ⟨lr q1,kh q2,Int.natCast_nonneg m,oM⟩
 .cases h
def XM(v:V)(i:Int)(c:V->Bool):Bool:=
 match v with
 |.str s=>Eb i λm=>fF (Ef s.data.toList m) λb=>c (.int .u8 (Int.ofNat b.toNat))
 |_=>false
def qsc{v:V}{i:Int}{c:V->Bool}(h:XM v i c=true):∃s r,v=.str s/\yw s i=some r/\c r=true:=by
 unfold XM at h;split at h<;>try cases h
 obtain⟨m,rfl,h1⟩:=JA h;obtain⟨b,h2,h3⟩:=iM h1;rw[GY]at h2;refine⟨_,_,rfl,?_,h3⟩;simp only[yw];rw[ak (Int.natCast_nonneg m),EU];rename_i s
 have hb:s[m]?=some b:=by
  obtain⟨hm,hg⟩:=br.1 h2;have tz:m<s.size:=by simpa using hm
  rw[getElem?_pos s m tz];congr 1
 rw[hb];rfl
def GV(o:Option Int)(d:Nat)(c:Nat->Bool):Bool:=Option.rec (c d) (λi=>Eb i c) o
def Jz{o:Option Int}{d:Nat}{c:Nat->Bool}(h:GV o d c=true):∃m:Nat,o.getD (d:Int)=(m:Int)/\c m=true:=by
 cases o with
 |none=>exact⟨d,rfl,h⟩
 |some i=>
  obtain⟨m,rfl,h1⟩:=JA (show Eb i c=true from h);exact⟨m,rfl,h1⟩
def Zh(s:Bool)(sz:Nat)(d:V)(lo hi:Option Int)(ts:TS)(c:V->Bool):Bool:=
 match d with
 |.str b=>bM s (GV lo 0 λl=>GV hi (Hk b) λh=>bM (ee (Nat.ble l h) (Nat.ble h (Hk b))) (c (.str (ZL b l h))) false) false
 |.sl x xs=>bM s false (GV lo 0 λl=>GV hi (jn xs) λh=>bM (ee (Nat.ble l h) (ee (Nat.ble h (jn xs)) (xM (λv=>Nat.beq (rI v) sz) xs))) (c (.sl (ee x (Nat.beq h (jn xs))) (AB (BH xs h) l))) false)
 | .arr a off len st=>bM s false (GV lo 0 λl=>GV hi len λh=>bM (ee (Nat.ble l h) (Nat.ble h len)) (bM (Nat.beq l 0) (c (.arr a off h st)) (bM (Nat.beq l h) (c (.sl false [])) (ts.get a λo=>match o with
  |.arr _ s wr=>bM (ee (Nat.ble wr st) (Nat.beq s sz)) (qF (Nat.add off l) λj=>qF (Nat.sub h l) λn=>c (.arr a j n st)) false
  |_=>false))) false)
 |_=>false
def qwF{s:Bool}{sz:Nat}{d:V}{lo hi:Option Int}{ts:TS}{S:St}{c:V->Bool}(hs:ts.cO S)(h:Zh s sz d lo hi ts c=true):
  ∃r,(match s,d with
   |true,.str b=>(kO S sz (.str b) lo hi).map λr=>(r,S)
   |false,.sl ..|false,.arr ..=>(kO S sz d lo hi).map λr=>(r,S)
   |_,_=>none)=some (r,S)/\c r=true:=by
 unfold Zh at h;split at h
 .obtain⟨rfl,h0⟩:=fL h;obtain⟨l,h1,h2⟩:=Jz h0;obtain⟨r,h3,h4⟩:=Jz h2;obtain⟨h5,h6⟩:=fL h4;obtain⟨q1,q2⟩:=gJ h5;rw[Ze]at h3 q2;have q1:=lr q1;have q2:=lr q2;rw[qyz]at h6;refine⟨_,?_,h6⟩;simp only[kO];simp only[Int.ofNat_zero]at h1;rw[show(lo.getD 0)=(l:Int) from h1,h3,ak ⟨oM,oM,oM⟩];simp
 .rw[j9]at h;split at h
  .cases h
  rename_i kJ;simp only[Cj]at kJ;subst kJ;obtain⟨l,h1,h2⟩:=Jz h;obtain⟨r,h3,h4⟩:=Jz h2;obtain⟨h5,h6⟩:=fL h4;obtain⟨q1,h7⟩:=gJ h5;obtain⟨q2,q3⟩:=gJ h7;rw[rz]at h3 q2 h6;rw[CM]at q3;rw[FC,Hq,HU]at h6;have q1:=lr q1;have q2:=lr q2;refine⟨_,?_,h6⟩;simp only[kO];simp only[Int.ofNat_zero]at h1;rw[show(lo.getD 0)=(l:Int) from h1,h3,ak ⟨oM,oM,oM,by simpa only[zW,JB]using q3⟩];simp only[fG,EU,JB];congr 4;rw[eR];simp;omega
 .rw[j9]at h;split at h
  .cases h
  rename_i kJ;simp only[Cj]at kJ;subst kJ;obtain⟨l,h1,h2⟩:=Jz h;obtain⟨r,h3,h4⟩:=Jz h2;obtain⟨h5,h6⟩:=fL h4;obtain⟨q1,q2⟩:=gJ h5;have q1:=lr q1;have q2:=lr q2;simp only[Int.ofNat_zero]at h1;simp only[kO];rw[show(lo.getD 0)=(l:Int) from h1,h3,ak ⟨oM,oM,oM⟩];rw[j9]at h6;split at h6
  .rename_i hz;have:=kh hz;subst this;exact⟨_,by rw[ak sM];simp,h6⟩
  .rename_i hz;rw[au (by intro hh;apply hz;rw[HW];omega)];rw[j9]at h6;split at h6
   .rename_i he;have:=kh he;subst this;exact⟨_,by rw[ak rfl];rfl,h6⟩
   .rename_i he;rw[au (by intro hh;apply he;rw[HW];omega)];obtain⟨o,k1,k2⟩:=TS.mw hs h6;split at k2<;>try cases k2
    have k1:=Ey k1;obtain⟨k3,k4⟩:=fL k2;obtain⟨k5,k6⟩:=gJ k3;simp only[xW]at k4;refine⟨_,?_,k4⟩;simp only[k1];rw[ak ⟨lr k5,kh k6⟩];simp
 .cases h
def XO(o:Option bK)(tr:TE)(c:Option Int->Bool):Bool:=Option.rec (c none) (λx=>eC x tr λv=>zz v λn=>c (some n)) o
def qgp{tr:TE}{e:ae}(ht:tr.sub e){o:Option bK}{c:Option Int->Bool}(h:XO o tr c=true):∃r,oI e o=some r/\c r=true:=by
 cases o with
 |none=>exact⟨none,rfl,h⟩
 |some x=>
  obtain⟨v,h1,h2⟩:=eK (x:=x) (c:=λv=>zz v λn=>c (some n)) ht h;obtain⟨k,n,rfl,h3⟩:=Gz h2;exact⟨some n,by simp only[oI,h1],h3⟩
def qgL(s:Bool)(v:V)(c:V->Bool):Bool:=
 match v with
 |.str b=>bM s (c (.int .i64 (Int.ofNat (Hk b)))) false
 |.sl _ xs=>bM s false (c (.int .i64 (Int.ofNat (jn xs))))
 |.arr _ _ n _=>bM s false (c (.int .i64 (Int.ofNat n)))
 |_=>false
def RH(kd:jG)(a b:V):Option Bool:=
 match a with
 |.str x=>match b with
  |.str y=>jG.rec (some (yM x y)) (λ_=>none) kd
  |_=>none
 |a=>sF kd a b
def qst(kd:jG)(a b:V):RH kd a b=sF kd a b:=by
 unfold RH;split
 .split
  .cases kd
   .show some (yM _ _)=_;rw[yM,Vh];rfl
   .rfl
  .rename_i hb;cases kd<;>cases b<;>first|rfl|exact absurd rfl (hb _)
 .rfl
def Ju(kd:jG)(k:V)(es:List (V×V)):Nat->Option (Option (Nat×V)):=List.rec (motive:=λ_=>Nat->Option (Option (Nat×V))) (λ_=>some none)
 (λp _ ih i=>Option.rec none (λb=>Bool.rec (ih (Nat.succ i)) (some (some (i,p.2))) b) (RH kd k p.1)) es
def RN(kd:jG)(k:V):∀(es:List (V×V)) (i:Nat),Ju kd k es i=mD kd k es i
 |[],i=>rfl
 |(k',v)::es,i=>by
  show(Option.rec none (λb=>Bool.rec (Ju kd k es (Nat.succ i)) (some (some (i,v))) b) (RH kd k k'):Option (Option (Nat×V)))=_;rw[qst,RN kd k es];simp only[mD]
  cases sF kd k k' with
  |none=>rfl
  |some b=>cases b<;>rfl
def Yh(kd:jG)(z:V)(ok:Bool)(x k:V)(ts:TS)(c:V->Bool):Bool:=
 let fin (es:List (V×V)):Bool:=fF (Ju kd k es 0) λr=>Option.rec (c (bM ok (.aV [z,.bool false]) z)) (λp=>c (bM ok (.aV [p.2,.bool true]) p.2)) r
 bM (zC kd k) (match x with
  |.dI=>fin []
  |.map l=>ts.get l λo=>match o with
   |.map es _ _=>fin es
   |_=>false
  |_=>false) false
def qs8{kd:jG}{z:V}{ok:Bool}{x k:V}{ts:TS}{S:St}{c:V->Bool}(hs:ts.cO S)(h:Yh kd z ok x k ts c=true):∃r,sJ S kd z ok x k=some r/\c r=true:=by
 unfold Yh at h;obtain⟨h1,h2⟩:=fL h
 have fin:∀es,DZ S x=some es->(fF (Ju kd k es 0) λr=>Option.rec (c (bM ok (.aV [z,.bool false]) z)) (λp=>c (bM ok (.aV [p.2,.bool true]) p.2)) r)=true->∃r,sJ S kd z ok x k=some r/\c r=true:=by
  intro es hm hf;obtain⟨r,g1,g2⟩:=iM hf;rw[RN]at g1;simp only[sJ];rw[ak h1,hm];simp only[g1]
  cases r with
  |none=>exact⟨_,rfl,by rw[<-j9];exact g2⟩
  |some p=>exact⟨_,rfl,by rw[<-j9];exact g2⟩
 split at h2
 .exact fin [] rfl h2
 .obtain⟨o,k1,k2⟩:=TS.mw hs h2;split at k2<;>try cases k2
  have k1:=JS k1;exact fin _ (by simp only[DZ,k1]) k2
 .cases h2
def Yr(kd:jG)(x k v:V)(ts:TS)(c:TS->Bool):Bool:=
 bM (zC kd k) (match x with
  |.map l=>ts.get l λo=>match o with
   |.map es bs ck=>fF (Ju kd k es 0) λr=>Option.rec (c (ts.set l (.map (ji es [(k,v)]) (ji bs [ck]) (Nat.succ ck)))) (λp=>c (ts.set l (.map (SQ (k,v) es p.1) bs ck))) r
   |_=>false
  |_=>false) false
def qtt{kd:jG}{x k v:V}{ts:TS}{S:St}{c:TS->Bool}(hs:ts.cO S)(h:Yr kd x k v ts c=true):∃S' aM,og S kd x k v=some S'/\aM.cO S'/\c aM=true:=by
 unfold Yr at h;obtain⟨h1,h2⟩:=fL h;split at h2<;>try cases h2
 obtain⟨o,k1,k2⟩:=TS.mw hs h2;split at k2<;>try cases k2
 have k1:=JS k1;obtain⟨r,g1,g2⟩:=iM k2;rw[RN]at g1;simp only[og];rw[ak h1];simp only[k1,g1]
 cases r with
 |none=>exact⟨_,_,rfl,TS.Eu hs k1,by rw[<-oC,<-oC];exact g2⟩
 |some p=>exact⟨_,_,rfl,TS.Eu hs k1,by rw[<-Zd];exact g2⟩
def YT(x:V)(ts:TS)(c:V->TS->Bool):Bool:=
 match x with
 |.map lm=>ts.get lm λo=>match o with
  |.map _ _ ck=>qF ts.len λn=>c (.ptr n 0 0 0) (TS.push ⟨n,ts.tr⟩ (.iter lm ck [] ck))
  |_=>false
 |_=>false
def qvA{x:V}{ts:TS}{S:St}{c:V->TS->Bool}(hs:ts.cO S)(h:YT x ts c=true):∃r S' aM,Bv S x=some (r,S')/\aM.cO S'/\c r aM=true:=by
 unfold YT at h;split at h<;>try cases h
 obtain⟨o,k1,k2⟩:=TS.mw hs h;split at k2<;>try cases k2
 have k1:=JS k1;rw[xW]at k2;exact⟨_,_,_,by simp only[Bv,k1];rw[hs.1],TS.JJ hs,k2⟩
def GQ(b:Nat)(l:List Nat):Bool:=List.rec false (λx _ ih=>Bool.rec ih true (Nat.beq b x)) l
def Yp(b:Nat):∀l:List Nat,GQ b l=l.contains b
 |[]=>rfl
 |x::l=>by
  show(Bool.rec (GQ b l) true (Nat.beq b x):Bool)=_;rw[Yp b l,List.contains_cons,JB];cases (b==x)<;>rfl
def qan{α β:Type}(l:List α):List β->List (α×β):=List.rec (motive:=λ_=>List β->List (α×β)) (λ_=>[]) (λx _ ih m=>List.rec [] (λy ys _=>(x,y)::ih ys) m) l
def qao{α β:Type}:∀(l:List α) (m:List β),qan l m=l.zip m
 |[],m=>rfl
 |x::l,[]=>rfl
 |x::l,y::m=>by rw[KP,<-qao l m];rfl
def Ql{α:Type}(f:α->Bool)(l:List α):List α:=List.rec [] (λx _ ih=>Bool.rec ih (x::ih) (f x)) l
def qeB{α:Type}(f:α->Bool):∀l:List α,Ql f l=l.filter f
 |[]=>rfl
 |x::l=>by
  show(Bool.rec (Ql f l) (x::Ql f l) (f x):List α)=_;rw[qeB f l];cases hf:f x
  .rw[List.filter_cons_of_neg (by simp[hf])]
  .rw[List.filter_cons_of_pos hf]
def RZ(p:V)(ts:TS)(c:V->TS->Bool):Bool:=
 match p with
 | .ptr l i off st=>bM (ee (Nat.beq i 0) (ee (Nat.beq off 0) (Nat.beq st 0))) (ts.get l λo=>match o with
  |.iter lm since seen last=>ts.get lm λm=>match m with
   | .map es bs ck=>bM (ee (xM (λb=>Nat.ble (Nat.succ b) since) bs) (Nat.ble since last)) (List.rec (c (.aV [.bool false]) ts)
    (λq qs _=>xM (λq=>c (.aV [.bool true,q.1.1,q.1.2]) (ts.set l (.iter lm since (ji seen [q.2]) ck))) (q::qs)) (Ql (λq=>sP (GQ q.2 seen)) (qan es bs))) false
   |_=>false
  |_=>false) false
 |_=>false
def qtW{p:V}{ts:TS}{S:St}{c:V->TS->Bool}(hs:ts.cO S)(h:RZ p ts c=true):xi S p≠[]/\∀q,q∈xi S p->∃aM,aM.cO q.2/\c q.1 aM=true:=by
 unfold RZ at h;split at h<;>try cases h
 rename_i l i off st;obtain⟨h0,h⟩:=fL h;obtain⟨z1,h0⟩:=gJ h0;obtain⟨z2,z3⟩:=gJ h0;have z1:=kh z1;have z2:=kh z2;have z3:=kh z3;subst z1;subst z2;subst z3;obtain⟨o,k1,k2⟩:=TS.mw hs h;split at k2<;>try cases k2
 rename_i lm since seen last;have k1:=qj9 k1;obtain⟨m,g1,g2⟩:=TS.mw hs k2;split at g2<;>try cases g2
 rename_i es bs ck;have g1:=JS g1;obtain⟨e1,e2⟩:=fL g2;obtain⟨e3,e4⟩:=gJ e1;rw[CM]at e3;have e4:=lr e4
 have dq:(bs.all λb=>decide (b<since))=true:=by
  simp only[fR,dT]at e3 |-;exactλb hb=>lr (e3 b hb)
 have hf:(λq:(V×V)×Nat=>sP (GQ q.2 seen))=λq=>!seen.contains q.2:=by
  funext q;rw[JE,Yp]
 rw[qeB,qao,hf]at e2;simp only[xi,k1,g1];rw[ak ⟨dq,e4⟩]
 cases hq:(es.zip bs).filter λq=>!seen.contains q.2 with
 |nil=>
  rw[hq]at e2;exact⟨sM,λq hq=>by rw[sZ]at hq;subst hq;exact⟨ts,hs,e2⟩⟩
 |cons q0 qs=>
  rw[hq]at e2;have e2:xM (λq:(V×V)×Nat=>c (.aV [.bool true,q.1.1,q.1.2]) (ts.set l (.iter lm since (ji seen [q.2]) ck))) (q0::qs)=true:=e2;rw[CM,fR]at e2;refine⟨sM,λq hq=>?_⟩;obtain⟨q',hq',rfl⟩:=cY.1 hq;have:=e2 q' hq';rw[oC]at this;exact⟨_,TS.Eu hs k1,this⟩
def VN{α:Type}(f:α->Bool)(l:List α):Option α:=List.rec none (λx _ ih=>Bool.rec ih (some x) (f x)) l
def qeD{α:Type}(f:α->Bool):∀l:List α,VN f l=l.find? f
 |[]=>rfl
 |x::l=>by
  show(Bool.rec (VN f l) (some x) (f x):Option α)=_;rw[qeD f l,EY];cases f x<;>rfl
def Yv(l:List Nat):Bool:=List.rec true (λx xs ih=>Bool.rec ih false (GQ x xs)) l
def qhi:∀{l:List Nat},Yv l=true->l.Nodup
 |[],_=>uF
 |x::xs,h=>by
  have h':(Bool.rec (Yv xs) false (GQ x xs):Bool)=true:=h
  cases hm:GQ x xs with
  |true=>rw[hm]at h';cases h'
  |false=>
   rw[hm]at h';rw[Yp]at hm;exact List.nodup_cons.2 ⟨by simpa using hm,qhi h'⟩
def Ya(l:List Nat):Option Nat:=List.rec (motive:=λ_=>Option Nat->Option Nat) (λd=>d) (λx _ ih _=>ih (some x)) l none
def qgG:∀(l:List Nat) (d:Option Nat),(List.rec (motive:=λ_=>Option Nat->Option Nat) (λd=>d) (λx _ ih _=>ih (some x)) l d:Option Nat)=match l.getLast? with|some x=>some x|none=>d
 |[],d=>rfl
 |[x],d=>rfl
 |x::y::l,d=>by
  show(List.rec (motive:=λ_=>Option Nat->Option Nat) (λd=>d) (λx _ ih _=>ih (some x)) (y::l) (some x):Option Nat)=_;rw[qgG (y::l),Pn]
def qsH(l:List Nat):Ya l=l.getLast?:=by
 unfold Ya;rw[qgG];cases l.getLast?<;>rfl
def Vw(p:V)(ts:TS)(c:V->Bool):Bool:=
 match p with
 | .ptr l i off st=>bM (ee (Nat.beq i 0) (ee (Nat.beq off 0) (Nat.beq st 0))) (ts.get l λo=>match o with
  |.iter lm _ seen last=>ts.get lm λm=>match m with
   |.map es bs ck=>bM (ee (Nat.beq ck last) (Yv bs)) (fF (Ya seen) λb=>fF (VN (λq=>Nat.beq q.2 b) (qan es bs)) λq=>c (.aV [q.1.1,q.1.2])) false
   |_=>false
  |_=>false) false
 |_=>false
def qn6{p:V}{ts:TS}{S:St}{c:V->Bool}(hs:ts.cO S)(h:Vw p ts c=true):∃r,CU S p=some r/\c r=true:=by
 unfold Vw at h;split at h<;>try cases h
 rename_i l i off st;obtain⟨h0,h⟩:=fL h;obtain⟨z1,h0⟩:=gJ h0;obtain⟨z2,z3⟩:=gJ h0;have z1:=kh z1;have z2:=kh z2;have z3:=kh z3;subst z1;subst z2;subst z3;obtain⟨o,k1,k2⟩:=TS.mw hs h;split at k2<;>try cases k2
 have k1:=qj9 k1;obtain⟨m,g1,g2⟩:=TS.mw hs k2;split at g2<;>try cases g2
 have g1:=JS g1;obtain⟨e1,e2⟩:=fL g2;obtain⟨e3,e4⟩:=gJ e1;have e3:=kh e3;obtain⟨b,e5,e6⟩:=iM e2;obtain⟨q,e7,e8⟩:=iM e6;rw[qsH]at e5;rw[qeD,qao]at e7;have hf:∀b:Nat,(λq:(V×V)×Nat=>Nat.beq q.2 b)=λq=>q.2==b:=λb=>by funext q;exact JB _ _
 rw[hf]at e7;refine⟨_,?_,e8⟩;simp only[CU,k1,g1];rw[ak ⟨e3,qhi e4⟩];simp only[e5,e7]
def Qh{α:Type}(l:List α):Nat->List α:=List.rec (motive:=λ_=>Nat->List α) (λ_=>[]) (λx xs ih n=>Nat.rec xs (λm _=>x::ih m) n) l
def VB{α:Type}:∀(l:List α) (n:Nat),Qh l n=l.eraseIdx n
 |[],n=>by simp[Qh]
 |x::xs,0=>rfl
 |x::xs,n+1=>by rw[List.eraseIdx_cons_succ,<-VB xs n];rfl
def Vq(kd:jG)(x k:V)(ts:TS)(c:TS->Bool):Bool:=
 bM (zC kd k) (match x with
  |.map l=>ts.get l λo=>match o with
   |.map es bs ck=>fF (Ju kd k es 0) λr=>Option.rec (c (ts.set l (.map es bs ck))) (λp=>c (ts.set l (.map (Qh es p.1) (Qh bs p.1) ck))) r
   |_=>false
  |_=>false) false
def qnD{kd:jG}{x k:V}{ts:TS}{S:St}{c:TS->Bool}(hs:ts.cO S)(h:Vq kd x k ts c=true):∃S' aM,Aw S kd x k=some S'/\aM.cO S'/\c aM=true:=by
 unfold Vq at h;obtain⟨h1,h2⟩:=fL h;split at h2<;>try cases h2
 obtain⟨o,k1,k2⟩:=TS.mw hs h2;split at k2<;>try cases k2
 have k1:=JS k1;obtain⟨r,g1,g2⟩:=iM k2;rw[RN]at g1;simp only[Aw];rw[ak h1];simp only[k1,g1]
 cases r with
 |none=>exact⟨_,_,rfl,TS.Eu hs k1,g2⟩
 |some p=>exact⟨_,_,rfl,TS.Eu hs k1,by rw[<-VB,<-VB];exact g2⟩
def cA(S S':St):Prop:=∀(l:Nat) (i:LI),S[l]?=some (Ob.loop i)->∃st dM,S'[l]?=some (Ob.loop { i with st:=st,dM:=dM })
def cA.refl(S:St):cA S S:=λl i h=>⟨i.st,i.dM,h⟩
def cA.trans{S S1 S2:St}(h:cA S S1)(g:cA S1 S2):cA S S2:=λl i hl=>by
 obtain⟨st,p,h1⟩:=h l i hl;obtain⟨bc,p',h2⟩:=g l _ h1;exact⟨bc,p',h2⟩
def cA.fq(S T:St):cA S (S++T):=λl i h=>⟨i.st,i.dM,by rw[dh (br.1 h).1];exact h⟩
def cA.set{S:St}{l:Nat}{o o':Ob}(h:S[l]?=some o)(hn:∀i:LI,o≠Ob.loop i):cA S (S.set l o'):=λj i hj=>by
 by_cases hk:l=j
 .subst hk;rw[h]at hj;cases hj;exact absurd rfl (hn i)
 .exact⟨i.st,i.dM,by rw[bG hk];exact hj⟩
def qoj{e:ae}{S S':St}{k:X}{r:V}(h:bI e S k=some (r,S')):cA S S':=by
 by_cases hw:k.writes=true
 .cases k<;>simp only[X.writes,mf]at hw<;>simp only[bI]at h
  case yA kd x y z=>
   split at h<;>try cases h
   rename_i m key val _ _ _;simp only[ep,Prod.mk.injEq]at h;obtain⟨S1,h1,_,rfl⟩:=h;unfold og at h1;split at h1<;>try cases h1
   split at h1<;>try cases h1
   split at h1<;>try cases h1
   rename_i hl;split at h1<;>cases h1<;>exact cA.set hl (λi=>by simp)
  case Bm=>cases h;exact cA.fq _ _
  case D9 sz b z l c=>
   split at h<;>try cases h
   unfold Jw at h;split at h<;>cases h;exact cA.fq _ _
  case rng x=>
   simp only[xJ]at h;obtain⟨v,_,h⟩:=h;unfold Bv at h;split at h<;>try cases h
   split at h<;>cases h;exact cA.fq _ _
  case qN x=>cases h
  case del kd x y=>
   split at h<;>try cases h
   simp only[ep,Prod.mk.injEq]at h;obtain⟨S1,h1,_,rfl⟩:=h;unfold Aw at h1;split at h1<;>try cases h1
   split at h1<;>try cases h1
   split at h1<;>try cases h1
   rename_i hl;split at h1<;>cases h1<;>exact cA.set hl (λi=>by simp)
 .have:=qex (by simpa using hw) h;subst this;exact cA.refl _
def Qj{e:ae}{S S':St}{k:K}{r:V}(h:cf e S k=some (r,S')):cA S S':=by
 by_cases hw:k.writes=true
 .cases k<;>simp only[K.writes,mf]at hw<;>simp only[cf]at h
  case new z=>
   unfold aL at h;split at h<;>cases h;exact cA.fq _ _
  case box x=>
   simp only[xJ]at h;obtain⟨v,_,h⟩:=h;unfold aL at h;split at h<;>cases h;exact cA.fq _ _
  case oV n a x=>
   split at h<;>try cases h
   simp only[ep,Prod.mk.injEq]at h;obtain⟨S1,h1,_,rfl⟩:=h;unfold aI at h1;split at h1<;>try cases h1
   split at h1<;>try cases h1
   rename_i hl;split at h1<;>try cases h1
   simp only[xJ,ep]at h1;obtain⟨_,_,_,_,rfl⟩:=h1;exact cA.set hl (λi=>by simp)
  case fq sz b d x=>
   split at h<;>try cases h
   unfold fV at h;split at h
   .cases h
   .split at h
    .split at h
     .cases h;exact cA.refl _
     .split at h<;>cases h;exact cA.fq _ _
    .split at h<;>try cases h
     rename_i hl;split at h<;>cases h;exact cA.set hl (λi=>by simp)
    .cases h
  case call=>cases h
  case ex k=>exact qoj h
 .have:=Lr (by simpa using hw) h;subst this;exact cA.refl _
def qtY{S:St}{p:V}{q:V×St}(h:q∈xi S p):cA S q.2:=by
 unfold xi at h;split at h<;>try cases h
 split at h<;>try cases h
 rename_i hl;split at h<;>try cases h
 split at h<;>try cases h
 split at h
 .rw[sZ]at h;subst h;exact cA.refl _
 .obtain⟨q',_,rfl⟩:=cY.1 h;exact cA.set hl (λi=>by simp)
def XX(ts:List Nat)(tr:TE):(ae->Bool)->Bool:=List.rec (motive:=λ_=>(ae->Bool)->Bool) (λc=>c []) (λt _ ih c=>fF (Tx.get (path t) tr) λv=>ih λe=>c ((t,v)::e)) ts
def qgB{tr:TE}{e:ae}(ht:tr.sub e):∀{ts:List Nat} {c:ae->Bool},XX ts tr c=true->∃e0,rN ts e0 e/\c e0=true
 |[],c,h=>⟨[],λt h=>(by cases h),h⟩
 |t::ts,c,h=>by
  obtain⟨v,h1,h2⟩:=iM (show(fF (Tx.get (path t) tr) λv=>XX ts tr λe=>c ((t,v)::e))=true from h);obtain⟨e0,h3,h4⟩:=qgB ht h2;refine⟨_,λs hs=>?_,h4⟩;simp only[ae.get];by_cases bg:t=s
  .subst bg;rw[ak rfl];exact ht t v h1
  .rw[au bg];rcases dU.1 hs with rfl|hs
   .exact absurd rfl bg
   .exact h3 s hs
def YC(x:X)(tr:TE)(ts:TS)(c:V->TS->Bool):Bool:=bM x.reads false (XX x.tmps tr λe=>fF (bI e [] x) λp=>c p.1 ts)
def qt8{x:X}{tr:TE}{e:ae}{ts:TS}{S:St}{c:V->TS->Bool}(ht:tr.sub e)(hs:ts.cO S)(h:YC x tr ts c=true):O9 e S (.ex x) c:=by
 unfold YC at h;rw[j9]at h;split at h
 .cases h
 .rename_i hr;simp only[Cj]at hr;obtain⟨e0,h1,h2⟩:=qgB ht h;obtain⟨p,h3,h4⟩:=iM h2;refine⟨p.1,S,ts,?_,hs,h4⟩;simp only[cf];rw[qev h1,qew (S:=[]) hr,h3];rfl
def R9(x:X):TE->TS->(V->TS->Bool)->Bool:=
 match x with
 |.GO kd z ok x k=>λtr ts c=>eC x tr λm=>eC k tr λkey=>Yh kd z ok m key ts λr=>c r ts
 |.yA kd x k v=>λtr ts c=>eC x tr λm=>eC k tr λkey=>eC v tr λval=>Yr kd m key val ts λaM=>c (.aV []) aM
 |.Bm=>λ_ ts c=>qF ts.len λn=>c (.map n) (TS.push ⟨n,ts.tr⟩ (.map [] [] 0))
 |.D9 sz bytes z l cp=>λtr ts c=>eC l tr λlv=>eC cp tr λcv=>zz lv λli=>zz cv λci=>
  bM (Jw [] sz bytes z li ci).isSome (qF ts.len λn=>Eb li λm=>c (.arr n 0 m m) (TS.push ⟨n,ts.tr⟩ (.arr (List.replicate m z) sz m))) false
 |.H8 x=>λtr ts c=>eC x tr λp=>Qf p ts λxs=>fF (bytesOf xs) λbs=>c (.str ⟨⟨bs⟩⟩) ts
 |.rng x=>λtr ts c=>eC x tr λv=>YT v ts c
 |.nQ x=>λtr ts c=>eC x tr λv=>Vw v ts λr=>c r ts
 |.del kd x k=>λtr ts c=>eC x tr λm=>eC k tr λkey=>Vq kd m key ts λaM=>c (.aV []) aM
 |.wrap n x=>λtr ts c=>eC x tr λv=>bM (ee (Nat.beq (rI v) n) (Ip v.cells)) (c (.agg v.cells) ts) false
 |.Nx n sz kd x i=>λtr ts c=>eC x tr λv=>eC i tr λiv=>zz iv λix=>Eb ix λm=>bM (ee v.isAgg (Nat.ble (Nat.succ m) n)) (fF (JH v (Nat.mul m sz) kd) λr=>c r ts) false
 |x=>YC x
def qt7{x:X}{tr:TE}{e:ae}{ts:TS}{S:St}{c:V->TS->Bool}(ht:tr.sub e)(hs:ts.cO S)(h:R9 x tr ts c=true):O9 e S (.ex x) c:=by
 unfold R9 at h;split at h
 .obtain⟨m,h1,h2⟩:=eK ht h;obtain⟨key,h3,h4⟩:=eK ht h2;obtain⟨r,h5,h6⟩:=qs8 hs h4;exact⟨r,S,ts,by simp only[cf,bI,h1,h3,h5,fG],hs,h6⟩
 .obtain⟨m,h1,h2⟩:=eK ht h;obtain⟨key,h3,h4⟩:=eK ht h2;obtain⟨val,h5,h6⟩:=eK ht h4;obtain⟨S',aM,h7,h8,h9⟩:=qtt hs h6;exact⟨_,S',aM,by simp only[cf,bI,h1,h3,h5,h7,fG],h8,h9⟩
 .rw[xW]at h;exact⟨_,_,_,by simp only[cf,bI];rw[hs.1],TS.JJ hs,h⟩
 .obtain⟨lv,h1,h2⟩:=eK ht h;obtain⟨cv,h3,h4⟩:=eK ht h2;obtain⟨kl,li,rfl,h5⟩:=Gz h4;obtain⟨kc,ci,rfl,h6⟩:=Gz h5;obtain⟨h7,h8⟩:=fL h6;rw[xW]at h8;obtain⟨m,rfl,h9⟩:=JA h8;refine⟨_,_,_,?_,TS.JJ hs,h9⟩;simp only[cf,bI,h1,h3];unfold Jw at h7 |-;split at h7
  .rename_i hc;rw[ak hc,hs.1,EU]
  .cases h7
 .obtain⟨p,h1,h2⟩:=eK ht h;obtain⟨xs,h3,h4⟩:=qem hs h2;obtain⟨bs,h5,h6⟩:=iM h4;exact⟨_,S,ts,by simp only[cf,bI,h1,gG,H9,h3,h5,fG],hs,h6⟩
 .obtain⟨v,h1,h2⟩:=eK ht h;obtain⟨r,S',aM,h3,h4,h5⟩:=qvA hs h2;exact⟨r,S',aM,by simp only[cf,bI,h1,gG,h3],h4,h5⟩
 .obtain⟨v,h1,h2⟩:=eK ht h;obtain⟨r,h3,h4⟩:=qn6 hs h2;exact⟨r,S,ts,by simp only[cf,bI,h1,gG,h3,fG],hs,h4⟩
 .obtain⟨m,h1,h2⟩:=eK ht h;obtain⟨key,h3,h4⟩:=eK ht h2;obtain⟨S',aM,h5,h6,h7⟩:=qnD hs h4;exact⟨_,S',aM,by simp only[cf,bI,h1,h3,h5,fG],h6,h7⟩
 .obtain⟨v,h1,h2⟩:=eK ht h;obtain⟨h3,h4⟩:=fL h2;obtain⟨h5,h6⟩:=gJ h3;rw[zW]at h5;rw[Ly]at h6;exact⟨_,S,ts,by simp only[cf,bI,h1,gG];exact ak ⟨kh h5,h6⟩,hs,h4⟩
 .obtain⟨v,h1,h2⟩:=eK ht h;obtain⟨iv,h3,h4⟩:=eK ht h2;obtain⟨kk,ix,rfl,h5⟩:=Gz h4;obtain⟨m,rfl,h6⟩:=JA h5;obtain⟨h7,h8⟩:=fL h6;obtain⟨h9,Dh⟩:=gJ h7;obtain⟨r,IF,h12⟩:=iM h8;rw[NY]at IF;have Dh:=lr Dh;refine⟨r,S,ts,?_,hs,h12⟩;simp only[cf,bI,h1,h3];rw[ak ⟨h9,oM,oM⟩,EU,show m*_=Nat.mul m _ from rfl,IF];rfl
 .exact qt8 ht hs h
abbrev Ag:=Nat->List V->TS->(V->TS->Bool)->Bool
def Eh(k:K):TE->TS->(V->TS->Bool)->Bool:=
 match k with
 |.mv x=>λtr ts c=>eC x tr λv=>c v ts
 |.pick x a b=>λtr ts c=>eC x tr λv=>Fj v λt=>bM t (eC a tr λv=>c v ts) (eC b tr λv=>c v ts)
 |.new z=>λ_ ts c=>PY z ts c
 |.box x=>λtr ts c=>eC x tr λv=>PY v ts c
 |.build z ps=>λtr ts c=>Vf ps tr z λv=>c v ts
 |.Fq sz xs=>λtr ts c=>CV xs tr λl=>bM (ee (Lx sz l) (Nat.ble (Nat.mul (jn l) sz) 16777216)) (c (.sl true l) ts) false
 |.ld k a=>λtr ts c=>eC a tr λp=>ND p k ts λv=>c v ts
 |.oV n a x=>λtr ts c=>eC a tr λp=>eC x tr λv=>ZH p n v ts λaM=>c (.aV []) aM
 |.GW x=>λtr ts c=>eC x tr λv=>bM (dK v) (c v ts) false
 |.bin op x y=>λtr ts c=>eC x tr λu=>eC y tr λv=>UM op u v λr=>c r ts
 |.eq kd neg x y=>λtr ts c=>eC x tr λu=>eC y tr λv=>bM (gj kd u v) (fF (fH u v) λb=>c (.bool (bM neg (sP b) b)) ts) false
 |.un op x=>λtr ts c=>eC x tr λv=>fF (JW op v) λr=>c r ts
 |.fa off x=>λtr ts c=>eC x tr λv=>fF (AD v off) λr=>c r ts
 |.ia sz x i=>λtr ts c=>eC x tr λp=>eC i tr λiv=>zz iv λix=>XL sz p ix ts λr=>c r ts
 |.idx x i=>λtr ts c=>eC x tr λp=>eC i tr λiv=>zz iv λix=>XM p ix λr=>c r ts
 |.Iq off k x=>λtr ts c=>eC x tr λv=>bM v.isAgg (fF (JH v off k) λr=>c r ts) false
 |.slc s sz x lo hi=>λtr ts c=>eC x tr λd=>XO lo tr λl=>XO hi tr λh=>Zh s sz d l h ts λr=>c r ts
 |.ext i x=>λtr ts c=>eC x tr λv=>match v with
  |.aV vs=>fF (Ef vs i) λr=>c r ts
  |_=>false
 |.len s x=>λtr ts c=>eC x tr λv=>qgL s v λr=>c r ts
 |.fq sz bytes d x=>λtr ts c=>eC d tr λu=>eC x tr λv=>Ux sz bytes u v ts c
 |.Jv k fs cs=>λtr ts c=>CV fs tr λus=>CV cs tr λvs=>c (.fn (.func k) us vs) ts
 |.conv k x=>λtr ts c=>eC x tr λv=>zz v λn=>c (.int k (J5 k n)) ts
 |.call _ _=>λ_ _ _=>false
 |.ex x=>R9 x
def NX{k:K}{tr:TE}{e:ae}{ts:TS}{S:St}{c:V->TS->Bool}(ht:tr.sub e)(hs:ts.cO S)(h:Eh k tr ts c=true):O9 e S k c:=by
 cases k<;>simp only[Eh]at h
 case mv x=>
  obtain⟨v,h1,h2⟩:=eK ht h;exact⟨v,S,ts,by simp only[cf,h1,fG],hs,h2⟩
 case pick x a b=>
  obtain⟨v,h1,h2⟩:=eK ht h;obtain⟨t,rfl,h3⟩:=Vb h2;rw[j9]at h3;cases t
  .obtain⟨r,h4,h5⟩:=eK ht (by simpa using h3);exact⟨r,S,ts,by simp only[cf,h1];simp[h4],hs,h5⟩
  .obtain⟨r,h4,h5⟩:=eK ht (by simpa using h3);exact⟨r,S,ts,by simp only[cf,h1];simp[h4],hs,h5⟩
 case new z=>exact qdB hs h
 case box x=>
  obtain⟨v,h1,h2⟩:=eK ht h;obtain⟨r,S',aM,h3,h4,h5⟩:=qdB hs h2;exact⟨r,S',aM,by simp only[cf,h1,gG,h3],h4,h5⟩
 case build z ps=>
  obtain⟨l,r,h1,h2,h3⟩:=qdF ht h;exact⟨r,S,ts,by simp only[cf,h1,gG,h2,fG],hs,h3⟩
 case Fq sz xs=>
  obtain⟨l,h1,h2⟩:=AC ht h;obtain⟨h3,h4⟩:=fL h2;obtain⟨h5,h6⟩:=gJ h3;rw[VP]at h5;rw[rz]at h6;exact⟨_,S,ts,by simp only[cf,h1,gG];exact ak ⟨h5,lr h6⟩,hs,h4⟩
 case ld k a=>
  obtain⟨p,h1,h2⟩:=eK ht h;obtain⟨v,h3,h4⟩:=qgI hs h2;exact⟨v,S,ts,by simp only[cf,h1,gG,h3,fG],hs,h4⟩
 case oV n a x=>
  obtain⟨p,h1,h2⟩:=eK ht h;obtain⟨v,h3,h4⟩:=eK ht h2;obtain⟨S',aM,h5,h6,h7⟩:=qyt hs h4;exact⟨_,S',aM,by simp only[cf,h1,h3,h5,fG],h6,h7⟩
 case GW x=>
  obtain⟨v,h1,h2⟩:=eK ht h;obtain⟨h3,h4⟩:=fL h2;exact⟨v,S,ts,by simp only[cf,h1,gG];exact ak h3,hs,h4⟩
 case bin op x y=>
  obtain⟨u,h1,h2⟩:=eK ht h;obtain⟨v,h3,h4⟩:=eK ht h2;obtain⟨r,h5,h6⟩:=qmJ h4;exact⟨r,S,ts,by simp only[cf,h1,h3,h5,fG],hs,h6⟩
 case eq kd neg x y=>
  obtain⟨u,h1,h2⟩:=eK ht h;obtain⟨v,h3,h4⟩:=eK ht h2;obtain⟨h5,h6⟩:=fL h4;obtain⟨b,h7,h8⟩:=iM h6;rw[j9,JE]at h8;exact⟨_,S,ts,by simp only[cf,h1,h3];rw[ak h5,h7];rfl,hs,h8⟩
 case un op x=>
  obtain⟨v,h1,h2⟩:=eK ht h;obtain⟨r,h3,h4⟩:=iM h2;exact⟨r,S,ts,by simp only[cf,h1,gG,h3,fG],hs,h4⟩
 case fa off x=>
  obtain⟨v,h1,h2⟩:=eK ht h;obtain⟨r,h3,h4⟩:=iM h2;exact⟨r,S,ts,by simp only[cf,h1,gG,h3,fG],hs,h4⟩
 case ia sz x i=>
  obtain⟨p,h1,h2⟩:=eK ht h;obtain⟨v,h3,h4⟩:=eK ht h2;obtain⟨k,n,rfl,h5⟩:=Gz h4;obtain⟨r,h6,h7⟩:=qr9 hs h5;exact⟨r,S,ts,by simp only[cf,h1,h3,h6,fG],hs,h7⟩
 case idx x i=>
  obtain⟨p,h1,h2⟩:=eK ht h;obtain⟨v,h3,h4⟩:=eK ht h2;obtain⟨k,n,rfl,h5⟩:=Gz h4;obtain⟨s,r,rfl,h6,h7⟩:=qsc h5;exact⟨r,S,ts,by simp only[cf,h1,h3,h6,fG],hs,h7⟩
 case Iq off k x=>
  obtain⟨v,h1,h2⟩:=eK ht h;obtain⟨h3,h4⟩:=fL h2;obtain⟨r,h5,h6⟩:=iM h4;rw[NY]at h5;exact⟨r,S,ts,by simp only[cf,h1,gG];rw[ak h3,h5];rfl,hs,h6⟩
 case slc s sz x lo hi=>
  obtain⟨d,h1,h2⟩:=eK ht h;obtain⟨l,h3,h4⟩:=qgp ht h2;obtain⟨r,h5,h6⟩:=qgp ht h4;obtain⟨w,h7,h8⟩:=qwF hs h6;exact⟨w,S,ts,by simp only[cf,h1,h3,h5];exact h7,hs,h8⟩
 case ext i x=>
  obtain⟨v,h1,h2⟩:=eK ht h;split at h2<;>try cases h2
  obtain⟨r,h3,h4⟩:=iM h2;rw[GY]at h3;exact⟨r,S,ts,by simp only[cf,h1,h3,fG],hs,h4⟩
 case len s x=>
  obtain⟨v,h1,h2⟩:=eK ht h;unfold qgL at h2;split at h2
  .obtain⟨rfl,h3⟩:=fL h2;rw[Ze]at h3;exact⟨_,S,ts,by simp only[cf,h1,gG];rfl,hs,h3⟩
  .rw[j9]at h2;split at h2
   .cases h2
   .rename_i hb;simp only[Cj]at hb;subst hb;rw[rz]at h2;exact⟨_,S,ts,by simp only[cf,h1,gG];rfl,hs,h2⟩
  .rw[j9]at h2;split at h2
   .cases h2
   .rename_i hb;simp only[Cj]at hb;subst hb;exact⟨_,S,ts,by simp only[cf,h1,gG];rfl,hs,h2⟩
  .cases h2
 case fq sz bytes d x=>
  obtain⟨u,h1,h2⟩:=eK ht h;obtain⟨v,h3,h4⟩:=eK ht h2;obtain⟨r,S',aM,h5,h6,h7⟩:=qmu hs h4;exact⟨r,S',aM,by simp only[cf,h1,h3,h5],h6,h7⟩
 case Jv k fs cs=>
  obtain⟨us,h1,h2⟩:=AC ht h;obtain⟨vs,h3,h4⟩:=AC ht h2;exact⟨_,S,ts,by simp only[cf,h1,h3],hs,h4⟩
 case conv k x=>
  obtain⟨v,h1,h2⟩:=eK ht h;obtain⟨k',n,rfl,h3⟩:=Gz h2;rw[qlm]at h3;exact⟨_,S,ts,by simp only[cf,h1],hs,h3⟩
 case call=>cases h
 case ex x=>exact qt7 ht hs h
def O6(P:aG)(call:Ag):Prop:=∀(k:Nat) (args:List V) (ts:TS) (S:St) (c:V->TS->Bool),ts.cO S->call k args ts c=true->
 ∃r S' aM,aA P k args S (λv U=>v=r/\U=S')/\cA S S'/\aM.cO S'/\c r aM=true
def P1(call:Ag)(f:bK)(args:List bK)(tr:TE)(ts:TS)(c:V->TS->Bool):Bool:=
 eC f tr λfv=>match fv with
  |.fn (.func k) fs cs=>CV args tr λvs=>call k (ji (ji fs vs) cs) ts c
  |_=>false
def YB(call:Ag)(k:K):TE->TS->(V->TS->Bool)->Bool:=
 match k with
 |.call f args=>P1 call f args
 |k=>Eh k
def qmU{P:aG}{call:Ag}(ok:O6 P call){f:bK}{args:List bK}{tr:TE}{e:ae}{ts:TS}{S:St}{c:V->TS->Bool}(ht:tr.sub e)(hs:ts.cO S)(h:P1 call f args tr ts c=true):
  ∃k fs cs vs,f.ev e=some (.fn (.func k) fs cs)/\mr e args=some vs/\∃r S' aM,aA P k (fs++vs++cs) S (λv U=>v=r/\U=S')/\cA S S'/\aM.cO S'/\c r aM=true:=by
 unfold P1 at h;obtain⟨fv,h1,h2⟩:=eK ht h;split at h2<;>try cases h2
 obtain⟨vs,h3,h4⟩:=AC ht h2;rw[oC,oC]at h4;exact⟨_,_,_,vs,h1,h3,ok _ _ _ _ _ hs h4⟩
def BW(g:Option (Nat×Bool))(tr:TE)(no yes:Bool):Bool:=
 Option.rec yes (λp=>fF (Tx.get (path p.1) tr) λv=>match v with
  |.bool b=>bM (bM b p.2 (sP p.2)) yes no
  |.aV vs=>bM (GF vs) no false
  |_=>false) g
def Tn{g:Option (Nat×Bool)}{tr:TE}{e:ae}{no yes:Bool}(ht:tr.sub e)(h:BW g tr no yes=true):(jT e g=some true/\yes=true)\/(jT e g=some false/\no=true):=by
  cases g with
  |none=>exact .inl ⟨rfl,h⟩
  |some p=>
    obtain⟨t,want⟩:=p
    obtain ⟨v,h1,h2⟩:=iM (show (fF (Tx.get (path t) tr) λv=>match v with
      |.bool b=>bM (bM b want (sP want)) yes no
      |.aV vs=>bM (GF vs) no false
      |_=>false)=true from h)
    have hg:=ht t v h1;split at h2
    · rename_i b;simp only[jT,hg];cases b<;>cases want<;>first|exact .inl ⟨rfl,h2⟩|exact .inr ⟨rfl,h2⟩
    · rename_i vs;obtain⟨h3,h4⟩:=fL (show bM (GF vs) no false=true from h2);rw[XQ,List.isEmpty_iff]at h3;subst h3;exact .inr ⟨by simp only[jT,hg],h4⟩
    · cases h2
def N5(base:Nat)(tr:TE)(d:D)(T:TS):Bool:=
 match d.slot with
 |some s=>match d.o.k with
  |.new z=>T.get (base+s) λo=>match o with
   |.arr [y] sz 1=>ee (V.same y z) (ee (Nat.beq sz (rI z)) (ee (Nat.ble 1 (rI z)) (Ip z.cells)))
   |_=>false
  |_=>false
 |none=>bM d.o.k.writes false (Eh d.o.k tr T λv _=>Option.rec true (λt=>fF (Tx.get (path t) tr) λu=>V.same u v) d.o.dst)
def qvs{base:Nat}{tr:TE}{ef:ae}{d:D}{T:TS}{U:St}(ht:tr.sub ef)(hs:T.cO U)(h:N5 base tr d T=true):match d.slot with
  |some s=>match d.o.k with
   |.new z=>U[base+s]?=some (.arr [z] z.size 1)/\0<z.size/\(z.cells.all V.flat)=true
   |_=>False
  |none=>∃v,cf ef U d.o.k=some (v,U)/\∀t,d.o.dst=some t->ef.get t=some v:=by
 unfold N5 at h;split at h
 .rename_i s aN;split at h<;>try cases h
  rename_i z hz;obtain⟨o,h1,h2⟩:=TS.mw hs h;split at h2<;>try cases h2
  have h1:=Ey h1;obtain⟨q1,h3⟩:=gJ h2;obtain⟨q2,h4⟩:=gJ h3;obtain⟨q3,q4⟩:=gJ h4;rw[zW]at q2 q3;rw[Ly]at q4;rw[Oj _ _ q1,kh q2]at h1;exact⟨h1,lr q3,q4⟩
 .rename_i aN;rw[j9]at h;split at h
  .cases h
  rename_i hw;simp only[Cj]at hw;obtain⟨r,S',aM,g1,g2,g3⟩:=NX ht hs h;have:=Lr hw g1;subst this;refine⟨r,g1,λt hd=>?_⟩;rw[hd]at g3;obtain⟨u,k1,k2⟩:=iM (show(fF (Tx.get (path t) tr) λu=>V.same u r)=true from g3);rw[ht t u k1,Oj _ _ k2]
def N6(base:Nat)(tr:TE)(H:List TS)(ds:List D):Bool:=List.rec true (λd _ ih=>bM (ee d.chk (sP d.w)) (ee (BW d.o.g tr true (xM (N5 base tr d) (BH (AB H d.lo) (Nat.sub (Nat.succ d.hi) d.lo)))) ih) ih) ds
inductive nI:List TS->List St->Prop
 |nil:nI [] []
 |cons {T:TS} {U:St} {Ts:List TS} {Us:List St} (h:T.cO U) (t:nI Ts Us):nI (T::Ts) (U::Us)
def nI.fq{Ts:List TS}{Us:List St}{T:TS}{U:St}(h:nI Ts Us)(g:T.cO U):nI (Ts++[T]) (Us++[U]):=by
 induction h with
 |nil=>exact .cons g .nil
 |cons h _ ih=>exact .cons h ih
def nI.drop{Ts:List TS}{Us:List St}(h:nI Ts Us):∀n,nI (Ts.drop n) (Us.drop n):=by
 induction h with
 |nil=>intro n;simp;exact .nil
 |cons h t ih=>intro n;cases n with
  |zero=>exact .cons h t
  |succ n=>simpa using ih n
def nI.take{Ts:List TS}{Us:List St}(h:nI Ts Us):∀n,nI (Ts.take n) (Us.take n):=by
 induction h with
 |nil=>intro n;simp;exact .nil
 |cons h t ih=>intro n;cases n with
  |zero=>exact .nil
  |succ n=>simpa using .cons h (ih n)
def qvr{base:Nat}{tr:TE}{ef:ae}{d:D}(ht:tr.sub ef){Ts:List TS}{Us:List St}(h:nI Ts Us):Ts.all (N5 base tr d)=true->eZ base ef d Us:=by
 induction h with
 |nil=>intro _;trivial
 |cons h t ih=>
  intro ha;rw[Ak,cT]at ha;exact⟨qvs ht h ha.1,ih ha.2⟩
def YO{base:Nat}{tr:TE}{ef:ae}(ht:tr.sub ef){Ts:List TS}{Us:List St}(hh:nI Ts Us):∀{ds:List D},N6 base tr Ts ds=true->eF base ef Us ds
 |[],_=>trivial
 |d::ds,h=>by
  have h0:bM (ee d.chk (sP d.w)) (ee (BW d.o.g tr true (xM (N5 base tr d) (BH (AB Ts d.lo) (Nat.sub (Nat.succ d.hi) d.lo)))) (N6 base tr Ts ds)) (N6 base tr Ts ds)=true:=h;rw[j9,HU,JE]at h0;unfold eF;split at h0
  .rename_i hc;obtain⟨h1,h2⟩:=gJ h0;refine⟨?_,YO ht hh h2⟩;rw[ak hc];rcases Tn ht h1 with ⟨hw,h3⟩|⟨hw,_⟩
   .rw[hw];rw[CM,Hq,FC]at h3;exact qvr ht ((hh.drop _).take _) h3
   .rw[hw];trivial
  .rename_i hc;exact⟨by rw[au hc];trivial,YO ht hh h0⟩
def Yc(H:List TS)(d:TS->Bool):Bool:=List.rec (motive:=λ_=>(Bool->Bool)) (λb=>b) (λt _ ih _=>ih (d t)) H false
def qgH(d:TS->Bool):∀(H:List TS) (b:Bool),(List.rec (motive:=λ_=>(Bool->Bool)) (λb=>b) (λt _ ih _=>ih (d t)) H b:Bool)=match H.getLast? with|some t=>d t|none=>b
 |[],b=>rfl
 |[t],b=>rfl
 |t::u::H,b=>by
  show(List.rec (motive:=λ_=>(Bool->Bool)) (λb=>b) (λt _ ih _=>ih (d t)) (u::H) (d t):Bool)=_;rw[qgH d (u::H),Pn]
def nI.last{Ts:List TS}{Us:List St}(h:nI Ts Us):∀{t:TS},Ts.getLast?=some t->∃U,Us.getLast?=some U/\t.cO U:=by
 induction h with
 |nil=>intro t ht;cases ht
 |cons h t ih=>
  rename_i T U Ts Us;intro t' ht
  cases t with
  |nil=>simp at ht;subst ht;exact⟨U,rfl,h⟩
  |cons h' t''=>
   rw[Pn]at ht;obtain⟨W,g1,g2⟩:=ih ht;exact⟨W,by rw[Pn];exact g1,g2⟩
def fD(call:Ag)(base:Nat)(all:List D)(ds:List D):TE->TS->List TS->(TE->TS->Bool)->Bool:=List.rec (motive:=λ_=>TE->TS->List TS->(TE->TS->Bool)->Bool)
 (λtr _ H k=>bM (N6 base tr H all) (Yc H λts=>k tr ts) false)
 (λd _ ih tr ts H k=>BW d.o.g tr (ih (TE.put tr d.o.dst (.aV [])) ts (bM d.w (ji H [ts]) H) k)
  (Option.rec (YB call d.o.k tr ts λv aM=>ih (TE.put tr d.o.dst v) aM (bM d.w (ji H [aM]) H) k) (λs=>ih (TE.put tr d.o.dst (.ptr (Nat.add base s) 0 0 1)) ts (bM d.w (ji H [ts]) H) k) d.slot)) ds
def nI.To{Ts:List TS}{Us:List St}{T:TS}{U:St}(h:nI Ts Us)(g:T.cO U)(w:Bool):nI (bM w (ji Ts [T]) Ts) (if w then Us++[U] else Us):=by
 cases w
 .exact h
 .show nI (ji Ts [T]) _;rw[oC];exact h.fq g
def CX{P:aG}{call:Ag}(ok:O6 P call){base:Nat}{all:List D}:∀{ds:List D} {tr:TE} {e:ae} {ts:TS} {S S0:St} {Ts:List TS} {Us:List St} {k:TE->TS->Bool},tr.sub e->ts.cO S->nI Ts Us->(cA S0 S/\∀U,U∈Us->cA S0 U)->fD call base all ds tr ts Ts k=true->
    ∃bS aM S' e',(cA S0 S'/\aM.cO S')/\bS.sub e'/\k bS aM=true/\∀Q:ae->St->Prop,Q e' S'->ik P base ds (dP base all Q) e S Us
  |[],tr,e,ts,S,S0,Ts,Us,k,ht,hs,hh,hK,h=>by
    obtain⟨h1,h2⟩:=fL (show bM (N6 base tr Ts all) (Yc Ts λts=>k tr ts) false=true from h);unfold Yc at h2;rw[qgH]at h2
    cases hl:Ts.getLast? with
    |none=>rw[hl]at h2;cases h2
    |some t=>
      rw[hl]at h2;obtain⟨U,g1,g2⟩:=hh.last hl;refine⟨tr,t,U,e,⟨hK.2 U (List.mem_of_getLast? g1),g2⟩,ht,h2,λQ hQ=>?_⟩;simp only[ik,dP];exact⟨YO ht hh h1,by rw[g1];exact hQ⟩
  |d::ds,tr,e,ts,S,S0,Ts,Us,k,ht,hs,hh,hK,h=>by
    have up:∀{S1:St} (w:Bool),cA S0 S1→(cA S0 S1∧∀U,U∈(if w then Us++[S1] else Us)→cA S0 U):=λ{S1} w h1=>⟨h1,λU hU=>by
      cases w
      · exact hK.2 U (by simpa using hU)
      · have hU:U∈Us++[S1]:=by simpa using hU
        rcases cU.1 hU with hU|hU
        · exact hK.2 U hU
        · rw[sZ]at hU;subst hU;exact h1⟩
    rcases Tn ht (show BW d.o.g tr (fD call base all ds (TE.put tr d.o.dst (.aV [])) ts (bM d.w (ji Ts [ts]) Ts) k)
      (Option.rec (YB call d.o.k tr ts λv aM=>fD call base all ds (TE.put tr d.o.dst v) aM (bM d.w (ji Ts [aM]) Ts) k) (λs=>fD call base all ds (TE.put tr d.o.dst (.ptr (Nat.add base s) 0 0 1)) ts (bM d.w (ji Ts [ts]) Ts) k) d.slot)=true from h) with ⟨hw,h1⟩|⟨hw,h1⟩
    · cases aN:d.slot with
      |some s=>
        rw[aN]at h1;obtain⟨bS,aM,S',e',k1,k4,k2,k3⟩:=CX ok (TE.ua ht d.o.dst (.ptr (base+s) 0 0 1)) hs (hh.To hs d.w) (up d.w hK.1) (show fD call base all ds (TE.put tr d.o.dst (.ptr (base+s) 0 0 1)) ts (bM d.w (ji Ts [ts]) Ts) k=true from h1);exact⟨bS,aM,S',e',k1,k4,k2,λQ hQ=>by simp only[ik,hw,aN];exact k3 Q hQ⟩
      |none=>
        rw[aN]at h1;have h1:YB call d.o.k tr ts (λv aM=>fD call base all ds (TE.put tr d.o.dst v) aM (bM d.w (ji Ts [aM]) Ts) k)=true:=h1;by_cases hc:∃f args,d.o.k=.call f args
        · obtain⟨f,args,hk⟩:=hc;rw[hk]at h1;obtain⟨kf,fs,cs,vs,g1,g2,r,S1,ez,g3,g6,g4,g5⟩:=qmU ok ht hs (show P1 call f args tr ts _=true from h1);obtain⟨bS,aM,S',e',k1,k4,k2,k3⟩:=CX ok (TE.ua ht d.o.dst r) g4 (hh.To g4 d.w) (up d.w (hK.1.trans g6)) g5;refine⟨bS,aM,S',e',k1,k4,k2,λQ hQ=>?_⟩;simp only[ik,hw,aN,hk,g1,g2];exact P7 g3 (k3 Q hQ)
        · have h2:Eh d.o.k tr ts (λv aM=>fD call base all ds (TE.put tr d.o.dst v) aM (bM d.w (ji Ts [aM]) Ts) k)=true:=by
            revert h1 hc;generalize d.o.k=kk;intro h1 hc;cases kk<;>first|exact h1|exact absurd ⟨_,_,rfl⟩ hc
          obtain⟨r,S1,ez,g1,g2,g3⟩:=NX ht hs h2;obtain⟨bS,aM,S',e',k1,k4,k2,k3⟩:=CX ok (TE.ua ht d.o.dst r) g2 (hh.To g2 d.w) (up d.w (hK.1.trans (Qj g1))) g3;refine⟨bS,aM,S',e',k1,k4,k2,λQ hQ=>?_⟩;simp only[ik,hw,aN];revert g1 hc;generalize d.o.k=kk;intro hc g1;cases kk<;>first
            |(exfalso;exact hc ⟨_,_,rfl⟩)
            |(simp only[g1];exact k3 Q hQ)
    · obtain⟨bS,aM,S',e',k1,k4,k2,k3⟩:=CX ok (TE.ua ht d.o.dst (.aV [])) hs (hh.To hs d.w) (up d.w hK.1) h1;exact⟨bS,aM,S',e',k1,k4,k2,λQ hQ=>by simp only[ik,hw];exact k3 Q hQ⟩
abbrev KC:=Exit->TE->TS->Bool
def Hj(k:KC)(next:TE->TS->Bool):KC:=λx tr ts=>match x with
 |.normal=>next tr ts
 |x=>k x tr ts
def H2(id:Nat)(k:KC):KC:=λx tr ts=>match x with
 |.exit i=>bM (Nat.beq i id) (k .normal tr ts) (k (.exit i) tr ts)
 |x=>k x tr ts
def SO(k:KC):KC:=λx tr ts=>match x with
 |.goto _=>false
 |x=>k x tr ts
def zO(zs:List V):TS->(TS->Bool)->Bool:=List.rec (motive:=λ_=>TS->(TS->Bool)->Bool) (λts c=>c ts) (λz _ ih ts c=>qF ts.len λn=>ih (TS.push ⟨n,ts.tr⟩ (.arr [z] (rI z) 1)) c) zs
def N4:∀{zs:List V} {ts:TS} {S:St} {c:TS->Bool},ts.cO S->zO zs ts c=true->∃aM,aM.cO (S++iW zs)/\c aM=true
 |[],ts,S,c,hs,h=>⟨ts,by simpa[iW]using hs,h⟩
 |z::zs,ts,S,c,hs,h=>by
  have h1:(qF ts.len λn=>zO zs (TS.push ⟨n,ts.tr⟩ (.arr [z] (rI z) 1)) c)=true:=h;rw[xW,zW]at h1;obtain⟨aM,h2,h3⟩:=N4 (TS.JJ hs) h1;exact⟨aM,by simpa[iW]using h2,h3⟩
def Bl(f:TE->TS->KC->Bool)(k:KC)(n:Nat):TE->TS->Bool:=Nat.rec (motive:=λ_=>TE->TS->Bool) (λ_ _=>false) (λ_ again tr ts=>f tr ts (Hj k again)) n
def Jt:Nat:=1000000
def NL(P:aG)(c:C')(Q:dV):Nat->ae->St->Prop
 |0,_,_=>False
 |n+1,e,S=>∀R:ae->St->Prop,(∀e S,NL P c Q n e S->R e S)->WP P c (lS R Q) e S
def qgR{P:aG}{c:C'}{Q:dV}{n:Nat}{e:ae}{S:St}(h:NL P c Q n e S):WP P (.loop c) Q e S:=by
 simp only[WP];refine⟨NL P c Q,n,⟨e,λ_ _ h=>h,h⟩,λm e S hm=>?_⟩
 cases m with
 |zero=>exact hm.elim
 |succ m=>exact hm _ λe' S' hl=>⟨m,Nat.lt_succ_self m,e',λ_ _ h=>h,hl⟩
def qlD(P:aG)(c:C')(tr:TE)(e:ae)(ts:TS)(S:St)(k:KC):Prop:=
 ∃x bS aM S' e',(cA S S'/\aM.cO S')/\bS.sub e'/\k x bS aM=true/\∀Q:dV,Q x e' S'->WP P c Q e S
structure Tb where
 fn:Nat->Option F'
 pr:Nat->List V->Option V
structure Tb.Ok(P:Program)(T:Tb):Prop where
 fn:∀k f',T.fn k=some f'->∃f,P.funcs[k]?=some f/\ra P f=some f'
 pr:∀k args r,T.pr k args=some r->∀S,aA P k args S (λv U=>v=r/\U=S)
def Av(args:List V):Nat->TE->TE:=List.rec (motive:=λ_=>Nat->TE->TE) (λ_ t=>t) (λv _ ih k t=>ih (Nat.succ k) (Tx.put v (path k) t)) args
def UD:∀(args:List V) (k:Nat) (t:TE) (e:ae),t.sub e->(∀j v,e.get j=some v->j<k)->(Av args k t).sub (jV k args++e)
 |[],k,t,e,h,_=>h
 |v::vs,k,t,e,h,hk=>by
  have h1:=UD vs (k+1) (Tx.put v (path k) t) ((k,v)::e) (TE.ua h (some k) v) (λj w hj=>by
   simp only[ae.get]at hj;split at hj
   .omega
   .have:=hk j w hj;omega)
  intro j w hj;have h2:=h1 j w hj;show ae.get ((k,v)::(jV (k+1) vs++e)) j=some w
  have fq:∀(a b:ae) (j:Nat),ae.get (a++b) j=match ae.get a j with|some x=>some x|none=>ae.get b j:=by
   intro a b j
   induction a with
   |nil=>rfl
   |cons p a ih=>
    obtain⟨q,u⟩:=p;simp only[dR,ae.get];split
    .rfl
    .exact ih
  simp only[ae.get];rw[fq]at h2 |-
  cases ha:ae.get (jV (k+1) vs) j with
  |some x=>
   rw[ha]at h2;have:=(UC vs (k+1) j x ha).1;rw[au oM];exact h2
  |none=>
   rw[ha]at h2;simp only[ae.get]at h2;exact h2
def Ha(rs:List RV)(tr:TE)(ts:TS):(List V->Bool)->Bool:=List.rec (motive:=λ_=>(List V->Bool)->Bool) (λc=>c []) (λr _ ih c=>RV.rec (λt=>fF (Tx.get (path t) tr) λv=>ih λvs=>c (v::vs)) (λt k=>fF (Tx.get (path t) tr) λp=>ND p k ts λv=>ih λvs=>c (v::vs)) r) rs
def SK{tr:TE}{e:ae}{ts:TS}{S:St}(ht:tr.sub e)(hs:ts.cO S):∀{rs:List RV} {c:List V->Bool},Ha rs tr ts c=true->∃vs,eL e S rs=some vs/\c vs=true
 |[],c,h=>⟨[],rfl,h⟩
 |.t t::rs,c,h=>by
  obtain⟨v,h1,h2⟩:=iM (show(fF (Tx.get (path t) tr) λv=>Ha rs tr ts λvs=>c (v::vs))=true from h);obtain⟨vs,h3,h4⟩:=SK ht hs h2;exact⟨v::vs,by simp only[eL,ht t v h1,h3],h4⟩
 |.cell t k::rs,c,h=>by
  obtain⟨p,h1,h2⟩:=iM (show(fF (Tx.get (path t) tr) λp=>ND p k ts λv=>Ha rs tr ts λvs=>c (v::vs))=true from h);obtain⟨v,h3,h4⟩:=qgI hs h2;obtain⟨vs,h5,h6⟩:=SK ht hs h4;exact⟨v::vs,by simp only[eL,ht t p h1,h5,h3,fG],h6⟩
def N7(vs:List V)(c:V->Bool):Bool:=List.rec (c (.aV [])) (λv t _=>bM (GF t) (c v) (c (.aV (v::t)))) vs
def qjw(vs:List V)(c:V->Bool):N7 vs c=c (aY vs):=by
 cases vs with
 |nil=>rfl
 |cons v t=>cases t<;>rfl
def Ii(rs:List RV)(c:V->TS->Bool):KC:=λx tr ts=>match x with
 |.normal=>Ha rs tr ts λvs=>N7 vs λv=>c v ts
 |.ret=>Ha rs tr ts λvs=>N7 vs λv=>c v ts
 |_=>false
def EK{P:aG}:∀{os:List O'} {Q Q':ae->St->Prop} {e:ae} {S:St},(∀e S,Q e S->Q' e S)->eM P os Q e S->eM P os Q' e S
 |[],_,_,_,_,hq,h=>hq _ _ h
 |o::os,Q,Q',e,S,hq,h=>by
  simp only[eM]at h |-;split at h
  .exact h.elim
  .exact EK hq h
  .generalize o.k=k at h |-;cases k
   case call f args=>
    simp only at h |-;split at h
    .obtain⟨R,h1,h2⟩:=h;exact⟨R,h1,λr S' hr=>EK hq (h2 r S' hr)⟩
    .obtain⟨R,h1,h2⟩:=h;exact⟨R,h1,λr S' hr=>EK hq (h2 r S' hr)⟩
    .exact h.elim
   all_goals
    simp only at h |-
    split at h
    .exact EK hq h
    .rcases h with ⟨h1,h2⟩|⟨h1,h2⟩
     .exact .inl ⟨h1,λv hv=>EK hq (h2 v hv)⟩
     .exact .inr ⟨h1,λq hv=>EK hq (h2 q hv)⟩
def Ig{P:aG}{base:Nat}:∀{ds:List D} {K K':ae->List St->Prop} {e:ae} {S:St} {H:List St},(∀e H,K e H->K' e H)->ik P base ds K e S H->ik P base ds K' e S H
 |[],_,_,_,_,_,hq,h=>hq _ _ h
 |d::ds,K,K',e,S,H,hq,h=>by
  simp only[ik]at h |-;split at h
  .exact h.elim
  .exact Ig hq h
  .split at h
   .exact Ig hq h
   .generalize d.o.k=k at h |-;cases k
    case call f args=>
     simp only at h |-;split at h
     .obtain⟨R,h1,h2,h3⟩:=h;exact⟨R,h1,h2,λv S' hR=>Ig hq (h3 v S' hR)⟩
     .exact h.elim
    all_goals
     simp only at h |-
     split at h
     .exact Ig hq h
     .exact h.elim
def xK{P:aG}:∀{c:C'} {Q Q':dV} {e:ae} {S:St},(∀x e S,Q x e S->Q' x e S)->WP P c Q e S->WP P c Q' e S:=by
 intro c
 induction c with
 |skip=>intro Q Q' e S hq h;exact hq _ _ _ h
 |reg ops=>intro Q Q' e S hq h;exact EK (hq .normal) h
 |draw ds zs=>
  intro Q Q' e S hq h;refine Ig (λe H hd=>?_) h;simp only[dP]at hd |-;refine⟨hd.1,?_⟩;have h2:=hd.2;split at h2
  .exact hq _ _ _ h2
  .exact h2.elim
 |FB ds zs o=>
  intro Q Q' e S hq h;refine Ig (λe H hd=>?_) h;simp only[dP]at hd |-;refine⟨hd.1,?_⟩;have h2:=hd.2;split at h2
  .exact EK (hq .normal) h2
  .exact h2.elim
 |seq a b iha ihb=>
  intro Q Q' e S hq h;refine iha (λx e S hx=>?_) h;cases x<;>first|exact hq _ _ _ hx|exact ihb hq hx
 |cond c a b iha ihb=>
  intro Q Q' e S hq h;simp only[WP]at h |-;split at h
  .exact⟨λht=>iha hq (h.1 ht),λht=>ihb hq (h.2 ht)⟩
  .exact h.elim
 |block id c ih=>
  intro Q Q' e S hq h;refine ih (λx e S hx=>?_) h;cases x<;>simp only[yG]at hx |-<;>try exact hq _ _ _ hx
  split at hx
  .rename_i hi;rw[ak hi];exact hq _ _ _ hx
  .rename_i hi;rw[au hi];exact hq _ _ _ hx
 |scope c ih=>
  intro Q Q' e S hq h;refine ih (λx e S hx=>?_) h;cases x<;>simp only[G2]at hx |-<;>exact hq _ _ _ hx
 |loop c ih=>
  intro Q Q' e S hq h;obtain⟨I,n,h0,h1⟩:=h;refine⟨I,n,h0,λn e S hi=>ih (λx e S hx=>?_) (h1 n e S hi)⟩;cases x<;>first|exact hq _ _ _ hx|exact hx
 |exit id=>intro Q Q' e S hq h;exact hq _ _ _ h
 |ret=>intro Q Q' e S hq h;exact hq _ _ _ h
 |bad=>intro Q Q' e S hq h;exact h
 |rf g ps cV body ca cb N ts iha ihb=>
  intro Q Q' e S hq h;simp only[WP]at h |-;intro h1 h2;have h:=h h1 h2;split at h
  .obtain⟨R,g1,g2⟩:=h;refine⟨R,g1,λr S' hr=>?_⟩;obtain⟨i,k1,k2,k3⟩:=g2 r S' hr;refine⟨i,k1,k2,?_⟩;split at k3<;>first|exact hq _ _ _ k3|exact k3.elim
  .exact h.elim
abbrev KW:=List V->TS->(V->TS->Bool)->Bool
abbrev jE:=List (Nat×KW)
abbrev nH:=jE->Nat->List V->TS->(V->TS->Bool)->Bool
def KV(S:St)(c:V->TS->Bool)(r:V)(S':St):Prop:=cA S S'/\∃aM,aM.cO S'/\c r aM=true
def Aj(i0:LI)(l:Nat)(S:St):Prop:=∃st dM,S[l]?=some (Ob.loop { i0 with st:=st,dM:=dM })
def Aj.kept{i0:LI}{l:Nat}{S S':St}(h:Aj i0 l S)(g:cA S S'):Aj i0 l S':=by
 obtain⟨st,p,h⟩:=h;obtain⟨bc,p',h'⟩:=g l _ h;exact⟨bc,p',h'⟩
def uq(P:aG):jE->St->Prop
 |[],_=>True
 |(l,qP)::bj,S=>uq P bj S/\∃i0:LI,Aj i0 l S/\∀(args:List V) (ts:TS) (U:St) (c:V->TS->Bool),uq P bj U->Aj i0 l U->ts.cO U->qP args ts c=true->jg P l args U (KV U c)
def uq.kept{P:aG}:∀{bj:jE} {S S':St},uq P bj S->cA S S'->uq P bj S'
 |[],_,_,_,_=>trivial
 |(l,qP)::bj,S,S',⟨h1,i0,h2,h3⟩,hk=>⟨uq.kept h1 hk,i0,h2.kept hk,h3⟩
def Lj(l:Nat)(bj:jE):Option KW:=List.rec none (λp _ ih=>bM (Nat.beq p.1 l) (some p.2) ih) bj
def qdY{P:aG}{l:Nat}{qP:KW}{args:List V}{ts:TS}{S:St}{c:V->TS->Bool}:∀{bj:jE},uq P bj S->Lj l bj=some qP->ts.cO S->qP args ts c=true->jg P l args S (KV S c)
 |[],_,h,_,_=>by cases h
 |(l',r')::bj,⟨h1,i0,h2,h3⟩,h,hs,hr=>by
  have h':bM (Nat.beq l' l) (some r') (Lj l bj)=some qP:=h;rw[j9]at h';split at h'
  .rename_i hb;have:=kh hb;subst this;cases h';exact h3 args ts S c h1 h2 hs hr
  .exact qdY h1 h' hs hr
def TX(P:aG)(call:nH):Prop:=∀(bj:jE) (k:Nat) (args:List V) (ts:TS) (S:St) (c:V->TS->Bool),uq P bj S->ts.cO S->call bj k args ts c=true->aA P k args S (KV S c)
def P0(call:nH)(bj:jE)(f:bK)(args:List bK)(tr:TE)(ts:TS)(c:V->TS->Bool):Bool:=
 eC f tr λfv=>match fv with
  |.fn (.func k) fs cs=>CV args tr λvs=>call bj k (ji (ji fs vs) cs) ts c
  |.dc l=>CV args tr λvs=>fF (Lj l bj) λqP=>qP vs ts c
  |_=>false
def VA(neg:Bool)(v:V)(ts:TS)(c:V->TS->Bool):Bool:=
 match v with
 |.sl _ xs=>bM (GF xs) (ee (c (.bool true) ts) (c (.bool false) ts)) (c (.bool neg) ts)
 |.arr _ _ _ _=>c (.bool neg) ts
 |_=>false
def qt6(x:X):TE->TS->(V->TS->Bool)->Bool:=
 match x with
 |.qN x=>λtr ts c=>eC x tr λp=>RZ p ts c
 |.eqn neg x=>λtr ts c=>eC x tr λv=>VA neg v ts c
 |x=>R9 x
def YA(call:nH)(bj:jE)(k:K):TE->TS->(V->TS->Bool)->Bool:=
 match k with
 |.call f args=>P0 call bj f args
 |.ex x=>qt6 x
 |k=>Eh k
def qt5{P:aG}{call:nH}{bj:jE}{o:O'}{os:List O'}{tr:TE}{e:ae}{ts:TS}{S:St}{c:V->TS->Bool}{Q:ae->St->Prop}(hw:jT e o.g=some true)(hc:∀f args,o.k≠.call f args)(ht:tr.sub e)(hs:ts.cO S)
  (h:YA call bj o.k tr ts c=true) (hn:∀r S' aM,cA S S'->aM.cO S'->c r aM=true->eM P os Q (e.put o.dst r) S'):eM P (o::os) Q e S:=by
 have main:∀{kk:K},o.k=kk->O9 e S kk c->eM P (o::os) Q e S:=by
  intro kk hk ⟨r,S1,ez,g1,g2,g3⟩;have h3:=hn r S1 ez (Qj g1) g2 g3;simp only[eM,hw];rw[hk]at hc |-;cases kk<;>first
   |(exfalso;exact hc _ _ rfl)
   |(simp only[g1];exact h3)
 generalize hk:o.k=kk at h;cases kk<;>try exact main hk (NX ht hs h)
 case call f args=>exact absurd hk (hc f args)
 case ex x=>
  cases x<;>try exact main hk (NX (k:=.ex _) ht hs h)
  case qN x=>
   obtain⟨p,h1,h2⟩:=eK (x:=x) (c:=λp=>RZ p ts c) ht h;obtain⟨h3,h4⟩:=qtW hs h2;simp only[eM,hw,hk,cf,bI];refine .inr ⟨?_,λq hq=>?_⟩
   .simp only[sL,h1];exact h3
   .simp only[sL,h1]at hq;obtain⟨aM,g1,g2⟩:=h4 q hq;exact hn q.1 q.2 aM (qtY hq) g1 g2
  case eqn neg x=>
   obtain⟨v,h1,h2⟩:=eK (x:=x) (c:=λv=>VA neg v ts c) ht h;unfold VA at h2;split at h2
   .rename_i b xs;rw[j9,XQ]at h2
    cases xs with
    |nil=>
     obtain⟨h3,h4⟩:=gJ (show ee (c (.bool true) ts) (c (.bool false) ts)=true from h2);simp only[eM,hw,hk,cf,bI,h1];refine .inl ⟨by simp[qM,GX,h1],λv hv=>?_⟩;simp only[qM,GX,h1,dU,yY,or_false]at hv;rcases hv with rfl|rfl
     .exact hn _ _ ts (cA.refl _) hs h3
     .exact hn _ _ ts (cA.refl _) hs h4
    |cons y ys=>
     simp only[eM,hw,hk,cf,bI,h1];exact hn _ _ ts (cA.refl _) hs (by simpa using h2)
   .simp only[eM,hw,hk,cf,bI,h1];exact hn _ _ ts (cA.refl _) hs h2
   .cases h2
def gO(call:nH)(bj:jE)(os:List O'):TE->TS->(TE->TS->Bool)->Bool:=List.rec (motive:=λ_=>TE->TS->(TE->TS->Bool)->Bool) (λtr ts k=>k tr ts)
 (λo _ ih tr ts k=>BW o.g tr (ih (TE.put tr o.dst (.aV [])) ts k) (YA call bj o.k tr ts λv aM=>ih (TE.put tr o.dst v) aM k)) os
def Ix{P:aG}{call:nH}(ok:TX P call){bj:jE}{S0:St}(cX:uq P bj S0):∀{os:List O'} {tr:TE} {e:ae} {ts:TS} {S:St} {k:TE->TS->Bool},cA S0 S->tr.sub e->ts.cO S->gO call bj os tr ts k=true->
  eM P os (λe' S'=>cA S0 S'/\∃bS aM,bS.sub e'/\aM.cO S'/\k bS aM=true) e S
 |[],tr,e,ts,S,k,hK,ht,hs,h=>⟨hK,tr,ts,ht,hs,h⟩
 |o::os,tr,e,ts,S,k,hK,ht,hs,h=>by
  rcases Tn ht (show BW o.g tr (gO call bj os (TE.put tr o.dst (.aV [])) ts k) (YA call bj o.k tr ts λv aM=>gO call bj os (TE.put tr o.dst v) aM k)=true from h) with ⟨hw,h1⟩|⟨hw,h1⟩
  .by_cases hc:∃f args,o.k=.call f args
   .obtain⟨f,args,hk⟩:=hc;rw[hk]at h1;obtain⟨fv,h2,h3⟩:=eK (x:=f) ht (show P0 call bj f args tr ts _=true from h1);simp only[eM,hw,hk,h2];split at h3
    .obtain⟨vs,h4,h5⟩:=AC ht h3;rw[oC,oC]at h5;simp only[h4];refine⟨_,ok bj _ _ ts S _ (cX.kept hK) hs h5,λr S' hr=>?_⟩;obtain⟨cI,aM,h6,h7⟩:=hr;exact Ix ok cX (hK.trans cI) (TE.ua ht o.dst r) h6 h7
    .obtain⟨vs,h4,h5⟩:=AC ht h3;obtain⟨qP,h6,h7⟩:=iM h5;simp only[h4];refine⟨_,qdY (cX.kept hK) h6 hs h7,λr S' hr=>?_⟩;obtain⟨cI,aM,h8,h9⟩:=hr;exact Ix ok cX (hK.trans cI) (TE.ua ht o.dst r) h8 h9
    .cases h3
   .refine qt5 hw (λf args hk=>hc ⟨f,args,hk⟩) ht hs h1 λr S' aM cI ha im=>?_
    exact Ix ok cX (hK.trans cI) (TE.ua ht o.dst r) ha im
  .simp only[eM,hw];exact Ix ok cX hK (TE.ua ht o.dst (.aV [])) hs h1
def Nw(s:LoopState):Bool:=match s with|.ready=>true|_=>false
def qhk(s:LoopState):Bool:=match s with|.busy=>false|_=>true
def Ss(ps:List Nat):List V->TE->TE:=List.rec (motive:=λ_=>List V->TE->TE) (λ_ t=>t) (λp _ ih vs t=>List.rec t (λv vs _=>ih vs (Tx.put v (path p) t)) vs) ps
def YK:∀(ps:List Nat) (vs:List V) {t:TE} {e:ae},t.sub e->(Ss ps vs t).sub (vB ps vs e)
 |[],vs,t,e,h=>by cases vs<;>exact h
 |p::ps,[],t,e,h=>h
 |p::ps,v::vs,t,e,h=>by
  simp only[vB];exact YK ps vs (TE.ua h (some p) v)
def qL(ts:List Nat)(tr:TE):TE:=List.rec .nil (λt _ ih=>Option.rec ih (λv=>Tx.put v (path t) ih) (Tx.get (path t) tr)) ts
def XY{tr:TE}{e:ae}(h:tr.sub e):∀(ts:List Nat),(qL ts tr).sub (e.keep ts)/\∀k v,Tx.get (path k) (qL ts tr)=some v->Tx.get (path k) tr=some v
 |[]=>⟨λk v hk=>(by rw[show qL [] tr=.nil from rfl,Tx.get_nil]at hk;cases hk),λk v hk=>(by rw[show qL [] tr=.nil from rfl,Tx.get_nil]at hk;cases hk)⟩
 |t::ts=>by
  obtain⟨ih1,ih2⟩:=XY h ts
  cases hg:Tx.get (path t) tr with
  |none=>
   have he:qL (t::ts) tr=qL ts tr:=by
    show(Option.rec (qL ts tr) (λv=>Tx.put v (path t) (qL ts tr)) (Tx.get (path t) tr):TE)=_;rw[hg]
   rw[he];refine⟨λk v hk=>?_,ih2⟩;have h1:=ih1 k v hk;simp only[ae.keep];split
   .simp only[ae.get];split
    .rename_i Dw;subst Dw;have:=ih2 _ v hk;rw[hg]at this;cases this
    .exact h1
   .exact h1
  |some w=>
   have he:qL (t::ts) tr=Tx.put w (path t) (qL ts tr):=by
    show(Option.rec (qL ts tr) (λv=>Tx.put v (path t) (qL ts tr)) (Tx.get (path t) tr):TE)=_;rw[hg]
   rw[he];have hew:=h t w hg;refine⟨λk v hk=>?_,λk v hk=>?_⟩
   .simp only[ae.keep,hew,ae.get];by_cases Dw:t=k
    .subst Dw;rw[Tx.Dc]at hk;cases hk;rw[ak rfl]
    .rw[Tx.Db _ _ _ _ (λhp=>Dw (NZ hp))]at hk;rw[au Dw];exact ih1 k v hk
   .by_cases Dw:t=k
    .subst Dw;rw[Tx.Dc]at hk;cases hk;exact hg
    .rw[Tx.Db _ _ _ _ (λhp=>Dw (NZ hp))]at hk;exact ih2 k v hk
def pK(st:LoopState)(p:Option Code):Ob:=.loop ⟨st,p,[],.skip,.skip,[],0⟩
def Vu(l:Nat)(c:V->TS->Bool):KC:=λx _ ts=>match x with
 |.normal=>ts.get l λo=>match o with
  |.loop _=>c (.bool true) (ts.set l (pK .ready none))
  |_=>false
 |.ret=>ts.get l λo=>match o with
  |.loop _=>c (.bool false) (ts.set l (pK .done (some .ret)))
  |_=>false
 |.exit id=>ts.get l λo=>match o with
  |.loop _=>c (.bool false) (ts.set l (pK .done (some (.exit id))))
  |_=>false
 |_=>false
def K5(fb:TE->TS->KC->Bool)(l:Nat)(c:V->TS->Bool):KC:=λx tr ts=>match x with
 |.normal=>ts.get l λo=>match o with
  |.loop i=>bM (Nw i.st) (fb tr (ts.set l (pK .busy i.dM)) (Vu l c)) false
  |_=>false
 |_=>false
def G7(fa fb:TE->TS->KC->Bool)(ps:List Nat)(BL:TE)(l:Nat):KW:=λargs ts c=>
 bM (Nat.beq (jn args) (jn ps)) (ts.get l λo=>match o with
  |.loop i=>bM (Nw i.st) (fa (Ss ps args BL) ts (K5 fb l c)) false
  |_=>false) false
def Ph(S0:St)(k:KC):dV:=λx e' S'=>cA S0 S'/\∃bS aM,bS.sub e'/\aM.cO S'/\k x bS aM=true
def Pj(P:aG)(bj:jE)(c:C')(f:TE->TS->KC->Bool):Prop:=∀{S0:St} {tr:TE} {e:ae} {ts:TS} {S:St} {k:KC},uq P bj S0->cA S0 S->tr.sub e->ts.cO S->f tr ts k=true->WP P c (Ph S0 k) e S
def Rx{s:LoopState}(h:Nw s=true):s=.ready:=by cases s<;>first|rfl|cases h
def qhl{s:LoopState}(h:qhk s=true):s≠.busy:=by cases s<;>first|(cases h;done)|(intro hh;cases hh)
def cA.JQ{S:St}{l:Nat}{i:LI}(h:S[l]?=some (Ob.loop i))(st:LoopState)(p:Option Code):cA S (S.set l (Ob.loop { i with st:=st,dM:=p })):=λj i' hj=>by
 by_cases hk:l=j
 .subst hk;rw[h]at hj;cases hj;exact⟨st,p,by rw[bO (br.1 h).1]⟩
 .exact⟨i'.st,i'.dM,by rw[bG hk];exact hj⟩
def qvB{P:aG}{bj:jE}{ca cb:C'}{fa fb:TE->TS->KC->Bool}(ha:Pj P bj ca fa)(hb:Pj P bj cb fb){i0:LI}{l:Nat}{BL:TE}(vm:BL.sub i0.e)(oK:comp P i0.N i0.cV=some ca)(jN:comp P i0.N i0.body=some cb)
    (na:ca.jc=true) (nb:cb.jc=true) (oO:i0.ps.all (λp=>decide (p<i0.N))=true) {args:List V} {ts:TS} {U:St} {c:V->TS->Bool} (cX:uq P bj U) (hl:Aj i0 l U) (hs:ts.cO U) (h:G7 fa fb i0.ps BL l args ts c=true):jg P l args U (KV U c):=by
  obtain ⟨h1,h2⟩:=fL (show bM (Nat.beq (jn args) (jn i0.ps)) (ts.get l λo=>match o with
    |.loop i=>bM (Nw i.st) (fa (Ss i0.ps args BL) ts (K5 fb l c)) false
    |_=>false) false=true from h)
  rw[rz,rz]at h1;have h1:=kh h1;obtain⟨st,pd,hl⟩:=hl;obtain⟨o,k1,k2⟩:=TS.mw hs h2;split at k2<;>try cases k2
  obtain⟨j,j1,j2,j3⟩:=Ez k1;rw[hl]at j1;cases j1;obtain⟨k3,k4⟩:=fL k2;have k3:=Rx k3;refine jg.intro (ca:=ca) (cb:=cb) hl oK jN (j2.trans k3) na nb h1 oO ?_;refine xK (λx e1 S1 hx=>?_) (ha cX (cA.refl U) (YK i0.ps args vm) hs k4);obtain⟨IM,qp,ez,m1,m2,m3⟩:=hx;cases x<;>try (cases m3)
  simp only[K5]at m3;obtain⟨o1,n1,n2⟩:=TS.mw m2 m3;split at n2<;>try cases n2
  obtain⟨i1,q1,q2,q3⟩:=Ez n1;obtain⟨n3,n4⟩:=fL n2;have n3:=Rx n3;refine⟨i1,q1,q2.trans n3,?_⟩;have QB:cA S1 (S1.set l (Ob.loop { i1 with st:=.busy })):=cA.JQ q1 .busy i1.dM;have iU:=TS.yK (o:=pK .busy _) (o1:=.loop { i1 with st:=.busy }) m2 q1 (by rw[show Ob.sk (.loop { i1 with st:=.busy })=pK .busy i1.dM from rfl,q3]);refine xK (λx e2 S2 hx=>?_) (hb cX (IM.trans QB) m1 iU n4);obtain⟨Wj,tr2,ZW,p1,p2,p3⟩:=hx;cases x<;>try (cases p3)
  all_goals
    simp only[Vu]at p3
    obtain⟨o2,r1,r2⟩:=TS.mw p2 p3
    split at r2<;>try cases r2
    obtain⟨i2,s1,s2,s3⟩:=Ez r1
    exact⟨i2,s1,Wj.trans (cA.JQ s1 _ _),_,TS.yK p2 s1 rfl,r2⟩
def uu(P:aG):jE->St->Prop
 |[],_=>True
 |(l,qP)::bj,S=>uu P bj S/\∃i0:LI,Aj i0 l S/\∀(args:List V) (ts:TS) (U:St) (c:V->TS->Bool),uu P bj U->Aj i0 l U->ts.cO U->qP args ts c=true->
  ∃r S' aM,jg P l args U (λv W=>v=r/\W=S')/\cA U S'/\aM.cO S'/\c r aM=true
def uu.kept{P:aG}:∀{bj:jE} {S S':St},uu P bj S->cA S S'->uu P bj S'
 |[],_,_,_,_=>trivial
 |(l,qP)::bj,S,S',⟨h1,i0,h2,h3⟩,hk=>⟨uu.kept h1 hk,i0,h2.kept hk,h3⟩
def qd4{P:aG}{l:Nat}{qP:KW}{args:List V}{ts:TS}{S:St}{c:V->TS->Bool}:∀{bj:jE},uu P bj S->Lj l bj=some qP->ts.cO S->qP args ts c=true->
  ∃r S' aM,jg P l args S (λv W=>v=r/\W=S')/\cA S S'/\aM.cO S'/\c r aM=true
 |[],_,h,_,_=>by cases h
 |(l',r')::bj,⟨h1,i0,h2,h3⟩,h,hs,hr=>by
  have h':bM (Nat.beq l' l) (some r') (Lj l bj)=some qP:=h;rw[j9]at h';split at h'
  .rename_i hb;have:=kh hb;subst this;cases h';exact h3 args ts S c h1 h2 hs hr
  .exact qd4 h1 h' hs hr
def O7(P:aG)(call:nH):Prop:=∀(bj:jE) (k:Nat) (args:List V) (ts:TS) (S:St) (c:V->TS->Bool),uu P bj S->ts.cO S->call bj k args ts c=true->
 ∃r S' aM,aA P k args S (λv U=>v=r/\U=S')/\cA S S'/\aM.cO S'/\c r aM=true
def Ed(call:nH):Ag:=λk args ts c=>call [] k args ts c
def Yu{P:aG}{call:nH}(ok:O7 P call):O6 P (Ed call):=λk args ts S c hs h=>ok [] k args ts S c trivial hs h
def qhp(call:nH)(bj:jE)(k:K):TE->TS->(V->TS->Bool)->Bool:=
 match k with
 |.call f args=>P0 call bj f args
 |k=>Eh k
def dO(call:nH)(bj:jE)(os:List O'):TE->TS->(TE->TS->Bool)->Bool:=List.rec (motive:=λ_=>TE->TS->(TE->TS->Bool)->Bool) (λtr ts k=>k tr ts)
 (λo _ ih tr ts k=>BW o.g tr (ih (TE.put tr o.dst (.aV [])) ts k) (qhp call bj o.k tr ts λv aM=>ih (TE.put tr o.dst v) aM k)) os
def Ia{P:aG}{call:nH}(ok:O7 P call){bj:jE}:∀{os:List O'} {tr:TE} {e:ae} {ts:TS} {S:St} {k:TE->TS->Bool},uu P bj S->tr.sub e->ts.cO S->dO call bj os tr ts k=true->
  ∃bS aM S' e',(cA S S'/\aM.cO S')/\bS.sub e'/\k bS aM=true/\∀Q:ae->St->Prop,Q e' S'->eM P os Q e S
 |[],tr,e,ts,S,k,_,ht,hs,h=>⟨tr,ts,S,e,⟨cA.refl _,hs⟩,ht,h,λQ hQ=>hQ⟩
 |o::os,tr,e,ts,S,k,cX,ht,hs,h=>by
  rcases Tn ht (show BW o.g tr (dO call bj os (TE.put tr o.dst (.aV [])) ts k) (qhp call bj o.k tr ts λv aM=>dO call bj os (TE.put tr o.dst v) aM k)=true from h) with ⟨hw,h1⟩|⟨hw,h1⟩
  .by_cases hc:∃f args,o.k=.call f args
   .obtain⟨f,args,hk⟩:=hc;rw[hk]at h1;obtain⟨fv,h2,h3⟩:=eK (x:=f) ht (show P0 call bj f args tr ts _=true from h1);split at h3
    .obtain⟨vs,h4,h5⟩:=AC ht h3;rw[oC,oC]at h5;obtain⟨r,S1,ez,g3,g6,g4,g5⟩:=ok bj _ _ ts S _ cX hs h5;obtain⟨bS,aM,S',e',k1,k4,k2,k3⟩:=Ia ok (cX.kept g6) (TE.ua ht o.dst r) g4 g5;refine⟨bS,aM,S',e',⟨g6.trans k1.1,k1.2⟩,k4,k2,λQ hQ=>?_⟩;simp only[eM,hw,hk,h2,h4];exact⟨_,g3,λr' U hr=>by obtain⟨rfl,rfl⟩:=hr;exact k3 Q hQ⟩
    .obtain⟨vs,h4,h5⟩:=AC ht h3;obtain⟨qP,h6,h7⟩:=iM h5;obtain⟨r,S1,ez,g3,g6,g4,g5⟩:=qd4 cX h6 hs h7;obtain⟨bS,aM,S',e',k1,k4,k2,k3⟩:=Ia ok (cX.kept g6) (TE.ua ht o.dst r) g4 g5;refine⟨bS,aM,S',e',⟨g6.trans k1.1,k1.2⟩,k4,k2,λQ hQ=>?_⟩;simp only[eM,hw,hk,h2,h4];exact⟨_,g3,λr' U hr=>by obtain⟨rfl,rfl⟩:=hr;exact k3 Q hQ⟩
    .cases h3
   .have h2:Eh o.k tr ts (λv aM=>dO call bj os (TE.put tr o.dst v) aM k)=true:=by
     revert h1 hc;generalize o.k=kk;intro h1 hc;cases kk<;>first|exact h1|exact absurd ⟨_,_,rfl⟩ hc
    obtain⟨r,S1,ez,g1,g2,g3⟩:=NX ht hs h2;obtain⟨bS,aM,S',e',k1,k4,k2,k3⟩:=Ia ok (cX.kept (Qj g1)) (TE.ua ht o.dst r) g2 g3;refine⟨bS,aM,S',e',⟨(Qj g1).trans k1.1,k1.2⟩,k4,k2,λQ hQ=>?_⟩;simp only[eM,hw];revert g1 hc;generalize o.k=kk;intro hc g1;cases kk<;>first
     |(exfalso;exact hc ⟨_,_,rfl⟩)
     |(simp only[g1];exact k3 Q hQ)
  .obtain⟨bS,aM,S',e',k1,k4,k2,k3⟩:=Ia ok cX (TE.ua ht o.dst (.aV [])) hs h1;exact⟨bS,aM,S',e',k1,k4,k2,λQ hQ=>by simp only[eM,hw];exact k3 Q hQ⟩
def O8(P:aG)(bj:jE)(c:C')(f:TE->TS->KC->Bool):Prop:=∀{tr:TE} {e:ae} {ts:TS} {S:St} {k:KC},uu P bj S->tr.sub e->ts.cO S->f tr ts k=true->qlD P c tr e ts S k
def qnU{P:aG}{bj:jE}{ca cb:C'}{fa fb:TE->TS->KC->Bool}(ha:O8 P bj ca fa)(hb:O8 P bj cb fb){i0:LI}{l:Nat}{BL:TE}(vm:BL.sub i0.e)(oK:comp P i0.N i0.cV=some ca)(jN:comp P i0.N i0.body=some cb)
    (na:ca.jc=true) (nb:cb.jc=true) (oO:i0.ps.all (λp=>decide (p<i0.N))=true) {args:List V} {ts:TS} {U:St} {c:V->TS->Bool} (cX:uu P bj U) (hl:Aj i0 l U) (hs:ts.cO U) (h:G7 fa fb i0.ps BL l args ts c=true):
    ∃r S' aM,jg P l args U (λv W=>v=r/\W=S')/\cA U S'/\aM.cO S'/\c r aM=true:=by
  obtain ⟨h1,h2⟩:=fL (show bM (Nat.beq (jn args) (jn i0.ps)) (ts.get l λo=>match o with
    |.loop i=>bM (Nw i.st) (fa (Ss i0.ps args BL) ts (K5 fb l c)) false
    |_=>false) false=true from h)
  rw[rz,rz]at h1;have h1:=kh h1;obtain⟨st,pd,hl⟩:=hl;obtain⟨o,k1,k2⟩:=TS.mw hs h2;split at k2<;>try cases k2
  obtain⟨j,j1,j2,j3⟩:=Ez k1;rw[hl]at j1;cases j1;obtain⟨k3,k4⟩:=fL k2;have k3:=Rx k3;obtain⟨x1,qp,ez,S1,e1,⟨IM,m2⟩,m1,m3,w1⟩:=ha cX (YK i0.ps args vm) hs k4;cases x1<;>try (cases m3)
  simp only[K5]at m3;obtain⟨o1,n1,n2⟩:=TS.mw m2 m3;split at n2<;>try cases n2
  obtain⟨i1,q1,q2,q3⟩:=Ez n1;obtain⟨n3,n4⟩:=fL n2;have n3:=Rx n3;have QB:cA S1 (S1.set l (Ob.loop { i1 with st:=.busy })):=cA.JQ q1 .busy i1.dM;have iU:=TS.yK (o:=pK .busy _) (o1:=.loop { i1 with st:=.busy }) m2 q1 (by rw[show Ob.sk (.loop { i1 with st:=.busy })=pK .busy i1.dM from rfl,q3]);obtain⟨x2,tr2,ZW,S2,e2,⟨Wj,p2⟩,p1,p3,w2⟩:=hb (cX.kept (IM.trans QB)) m1 iU n4;have intro:∀r S',Ep l (λv W=>v=r/\W=S') x2 e2 S2->jg P l args U (λv W=>v=r/\W=S'):=λr S' hr=>
    jg.intro (ca:=ca) (cb:=cb) hl oK jN (j2.trans k3) na nb h1 oO (w1 _ ⟨i1,q1,q2.trans n3,w2 _ hr⟩)
  cases x2<;>try (cases p3)
  all_goals
    simp only[Vu]at p3
    obtain⟨o2,r1,r2⟩:=TS.mw p2 p3
    split at r2<;>try cases r2
    obtain⟨i2,s1,s2,s3⟩:=Ez r1
    exact⟨_,_,_,intro _ _ ⟨i2,s1,rfl,rfl⟩,(IM.trans QB).trans (Wj.trans (cA.JQ s1 _ _)),TS.yK p2 s1 rfl,r2⟩
def C'.wf(P:aG):C'->Prop
 |.seq a b|.cond _ a b=>a.wf P/\b.wf P
 |.block _ c|.scope c|.loop c=>c.wf P
 |.rf _ _ cV body ca cb N _=>comp P N cV=some ca/\comp P N body=some cb/\ca.wf P/\cb.wf P
 |_=>True
def qns{P:aG}{N:Nat}:∀(c:Code) {c':C'},comp P N c=some c'->c'.wf P:=by
 intro c
 induction c with
 |region id ops draw=>
  intro c' h;simp only[comp,Tz]at h;split at h
  .split at h
   .cases h;trivial
   .split at h<;>cases h<;>trivial
  .split at h<;>cases h<;>trivial
 |seq x y Gv ihy=>
  intro c' h;simp only[comp]at h;split at h<;>cases h;rename_i hx hy;exact⟨Gv hx,ihy hy⟩
 |cond o x y Gv ihy=>
  intro c' h;simp only[comp]at h;split at h<;>cases h;rename_i hx hy;exact⟨Gv hx,ihy hy⟩
 |block id x ih=>
  intro c' h;simp only[comp]at h
  cases hx:comp P N x with
  |none=>rw[hx]at h;cases h
  |some x'=>rw[hx]at h;cases h;exact(show x'.wf P from ih hx)
 |scope x ih=>
  intro c' h;simp only[comp]at h
  cases hx:comp P N x with
  |none=>rw[hx]at h;cases h
  |some x'=>rw[hx]at h;cases h;exact(show x'.wf P from ih hx)
 |loop x ih=>
  intro c' h;simp only[comp]at h
  cases hx:comp P N x with
  |none=>rw[hx]at h;cases h
  |some x'=>rw[hx]at h;cases h;exact(show x'.wf P from ih hx)
 |rangeFunc f ps cV body iha ihb=>
  intro c' h;simp only[comp]at h;split at h
  .rename_i oK jN;split at h
   .cases h;exact⟨oK,jN,iha oK,ihb jN⟩
   .cases h;trivial
  .cases h;trivial
 |_=>intro c' h;simp only[comp,Option.some.injEq]at h;subst h;trivial
def qnq{P:aG}{fn:Func}{f:F'}(h:ra P fn=some f):f.body.wf P:=by
 unfold ra at h;split at h
 .split at h
  .cases h
  .rename_i c rs hb M8 hn
   cases hx:comp P fn.ntmps c with
   |none=>rw[hx]at h;cases h
   |some c'=>rw[hx]at h;cases h;exact qns c hx
 .cases h
def K0(l:Nat)(tr:TE)(k:KC):V->TS->Bool:=λ_ ts=>ts.get l λo=>match o with
 | .loop i=>bM (qhk i.st) (match i.dM with
  |none=>k .normal tr (ts.set l (pK .exhausted none))
  |some .ret=>k .ret tr (ts.set l (pK .exhausted (some .ret)))
  |some (.exit id)=>k (.exit id) tr (ts.set l (pK .exhausted (some (.exit id))))
  |_=>false) false
 |_=>false
def rfG(call:nH)(bj:jE)(g:bK)(ps:List Nat)(na nb:Bool)(N:Nat)(rK:List Nat)(fa fb:TE->TS->KC->Bool)(tr:TE)(ts:TS)(k:KC):Bool:=
 bM (ee na (ee nb (ps.all λp=>decide (p<N)))) (eC g tr λgv=>match gv with
  |.fn (.func kf) fs cs=>qF ts.len λl=>call ((l,G7 fa fb ps (qL rK tr) l)::bj) kf (ji (ji fs [.dc l]) cs) (TS.push ⟨l,ts.tr⟩ (pK .ready none)) (K0 l tr k)
  |_=>false) false
def dC(call:nH)(bj:jE)(c:C'):TE->TS->KC->Bool:=C'.rec (motive:=λ_=>TE->TS->KC->Bool)
 (λtr ts k=>k .normal tr ts)
 (λops tr ts k=>dO call bj ops tr ts λbS aM=>k .normal bS aM)
 (λds zs tr ts k=>zO zs ts λez=>fD (Ed call) ts.len ds ds tr ez [ez] λbS aM=>k .normal bS aM)
 (λds zs o tr ts k=>zO zs ts λez=>fD (Ed call) ts.len ds ds tr ez [ez] λbS aM=>dO call bj [o] bS aM λbS aM=>k .normal bS aM)
 (λ_ _ iha ihb tr ts k=>iha tr ts (Hj k λbS aM=>ihb bS aM k))
 (λc _ _ iha ihb tr ts k=>eC c tr λv=>Fj v λb=>bM b (iha tr ts k) (ihb tr ts k))
 (λid _ ih tr ts k=>ih tr ts (H2 id k))
 (λ_ ih tr ts k=>ih tr ts (SO k))
 (λ_ ih tr ts k=>Bl ih k Jt tr ts)
 (λid tr ts k=>k (.exit id) tr ts)
 (λtr ts k=>k .ret tr ts)
 (λ_ _ _=>false)
 (λg ps _ _ ca cb N rK iha ihb tr ts k=>rfG call bj g ps ca.jc cb.jc N rK iha ihb tr ts k) c
def qeg{P:aG}{bj:jE}{c:C'}{f:TE->TS->KC->Bool}(ih:O8 P bj c f):
  ∀(n:Nat) {tr:TE} {e:ae} {ts:TS} {S:St} {k:KC},uu P bj S->tr.sub e->ts.cO S->Bl f k n tr ts=true->
  ∃x bS aM S' e',(cA S S'/\aM.cO S')/\bS.sub e'/\k x bS aM=true/\∀Q:dV,Q x e' S'->NL P c Q n e S
 |0,tr,e,ts,S,k,_,ht,hs,h=>by cases h
 |n+1,tr,e,ts,S,k,cX,ht,hs,h=>by
  obtain⟨x1,qp,ez,S1,e1,a1,a2,a3,a4⟩:=ih cX ht hs (show f tr ts (Hj k (Bl f k n))=true from h);by_cases hx:x1=.normal
  .subst hx;obtain⟨x,bS,aM,S',e',b1,b2,b3,b4⟩:=qeg ih n (cX.kept a1.1) a2 a1.2 (show Bl f k n qp ez=true from a3);exact⟨x,bS,aM,S',e',⟨a1.1.trans b1.1,b1.2⟩,b2,b3,λQ hQ R hR=>a4 _ (hR _ _ (b4 Q hQ))⟩
  .have a5:k x1 qp ez=true:=by
    cases x1<;>first|exact absurd rfl hx|exact a3
   refine⟨x1,qp,ez,S1,e1,a1,a2,a5,λQ hQ R hR=>a4 _ ?_⟩;cases x1<;>first|exact absurd rfl hx|exact hQ
def qnw{P:aG}{call:nH}(ok:O7 P call){bj:jE}:∀(c:C'),c.wf P->O8 P bj c (dC call bj c):=by
  intro c
  induction c with
  |skip=>intro oQ tr e ts S k cX ht hs h;exact⟨_,tr,ts,S,e,⟨cA.refl _,hs⟩,ht,h,λQ hQ=>hQ⟩
  |reg ops=>
    intro oQ tr e ts S k cX ht hs h;obtain⟨bS,aM,S',e',h1,h2,h3,h4⟩:=Ia ok cX ht hs (show dO call bj ops tr ts (λbS aM=>k .normal bS aM)=true from h);exact⟨_,bS,aM,S',e',h1,h2,h3,λQ hQ=>h4 (Q .normal) hQ⟩
  |draw ds zs=>
    intro oQ tr e ts S k cX ht hs h;obtain⟨ez,g1,g2⟩:=N4 hs (show(zO zs ts λez=>fD (Ed call) ts.len ds ds tr ez [ez] λbS aM=>k .normal bS aM)=true from h);obtain⟨bS,aM,S',e',h1,h2,h3,h4⟩:=CX (S0:=S) (Yu ok) ht g1 (.cons g1 .nil) ⟨cA.fq _ _,λU hU=>by rw[sZ]at hU;subst hU;exact cA.fq _ _⟩ g2
    exact ⟨_,bS,aM,S',e',h1,h2,h3,λQ hQ=>by
      simp only[WP];rw[hs.1];exact h4 (Q .normal) hQ⟩
  |FB ds zs o=>
    intro oQ tr e ts S k cX ht hs h;obtain⟨ez,g1,g2⟩:=N4 hs (show(zO zs ts λez=>fD (Ed call) ts.len ds ds tr ez [ez] λbS aM=>dO call bj [o] bS aM λbS aM=>k .normal bS aM)=true from h);obtain⟨qp,qyS,S1,e1,h1,h2,h3,h4⟩:=CX (S0:=S) (Yu ok) ht g1 (.cons g1 .nil) ⟨cA.fq _ _,λU hU=>by rw[sZ]at hU;subst hU;exact cA.fq _ _⟩ g2;obtain⟨bS,aM,S',e',k1,k2,k3,k4⟩:=Ia ok (cX.kept h1.1) h2 h1.2 h3
    exact ⟨_,bS,aM,S',e',⟨h1.1.trans k1.1,k1.2⟩,k2,k3,λQ hQ=>by
      simp only[WP];rw[hs.1];exact h4 (DU P o Q .normal) (k4 (Q .normal) hQ)⟩
  |seq a b iha ihb=>
    intro oQ tr e ts S k cX ht hs h;obtain⟨x1,qp,ez,S1,e1,a1,a2,a3,a4⟩:=iha oQ.1 cX ht hs (show dC call bj a tr ts (Hj k λbS aM=>dC call bj b bS aM k)=true from h);by_cases hx:x1=.normal
    · subst hx;obtain⟨x,bS,aM,S',e',b1,b2,b3,b4⟩:=ihb oQ.2 (cX.kept a1.1) a2 a1.2 (show dC call bj b qp ez k=true from a3);exact⟨x,bS,aM,S',e',⟨a1.1.trans b1.1,b1.2⟩,b2,b3,λQ hQ=>a4 _ (b4 Q hQ)⟩
    · have a5:k x1 qp ez=true:=by
        cases x1<;>first|exact absurd rfl hx|exact a3
      refine⟨x1,qp,ez,S1,e1,a1,a2,a5,λQ hQ=>a4 _ ?_⟩;cases x1<;>first|exact absurd rfl hx|exact hQ
  |cond c a b iha ihb=>
    intro oQ tr e ts S k cX ht hs h;obtain⟨v,h1,h2⟩:=eK (x:=c) (c:=λv=>Fj v λt=>bM t (dC call bj a tr ts k) (dC call bj b tr ts k)) ht h;obtain⟨t,rfl,h3⟩:=Vb h2;cases t
    · obtain⟨x,bS,aM,S',e',b1,b2,b3,b4⟩:=ihb oQ.2 cX ht hs (show dC call bj b tr ts k=true from h3);exact⟨x,bS,aM,S',e',b1,b2,b3,λQ hQ=>by simp only[WP,h1];exact⟨λh=>(by cases h),λ_=>b4 Q hQ⟩⟩
    · obtain⟨x,bS,aM,S',e',b1,b2,b3,b4⟩:=iha oQ.1 cX ht hs (show dC call bj a tr ts k=true from h3);exact⟨x,bS,aM,S',e',b1,b2,b3,λQ hQ=>by simp only[WP,h1];exact⟨λ_=>b4 Q hQ,λh=>(by cases h)⟩⟩
  |block id c ih=>
    intro oQ tr e ts S k cX ht hs h;obtain⟨x1,qp,ez,S1,e1,a1,a2,a3,a4⟩:=ih oQ cX ht hs (show dC call bj c tr ts (H2 id k)=true from h);by_cases hx:∃i,x1=.exit i
    · obtain⟨i,rfl⟩:=hx;simp only[H2,j9]at a3;split at a3
      · rename_i hi;have hi:=kh hi;exact⟨_,qp,ez,S1,e1,a1,a2,a3,λQ hQ=>a4 _ (by simp only[yG];rw[ak hi];exact hQ)⟩
      · rename_i hi;have hi:¬i=id:=λhh=>hi (HW.2 hh)
        exact⟨_,qp,ez,S1,e1,a1,a2,a3,λQ hQ=>a4 _ (by simp only[yG];rw[au hi];exact hQ)⟩
    · have a5:k x1 qp ez=true:=by
        cases x1<;>first|exact absurd ⟨_,rfl⟩ hx|exact a3
      refine⟨x1,qp,ez,S1,e1,a1,a2,a5,λQ hQ=>a4 _ ?_⟩;cases x1<;>first|exact absurd ⟨_,rfl⟩ hx|exact hQ
  |scope c ih=>
    intro oQ tr e ts S k cX ht hs h;obtain⟨x1,qp,ez,S1,e1,a1,a2,a3,a4⟩:=ih oQ cX ht hs (show dC call bj c tr ts (SO k)=true from h);cases x1<;>first
      |(exact(by cases a3))
      |exact⟨_,qp,ez,S1,e1,a1,a2,a3,λQ hQ=>a4 _ hQ⟩
  |loop c ih=>
    intro oQ tr e ts S k cX ht hs h;obtain⟨x,bS,aM,S',e',b1,b2,b3,b4⟩:=qeg (ih oQ) Jt cX ht hs (show Bl (dC call bj c) k Jt tr ts=true from h);exact⟨x,bS,aM,S',e',b1,b2,b3,λQ hQ=>qgR (b4 Q hQ)⟩
  |exit id=>intro oQ tr e ts S k cX ht hs h;exact⟨_,tr,ts,S,e,⟨cA.refl _,hs⟩,ht,h,λQ hQ=>hQ⟩
  |ret=>intro oQ tr e ts S k cX ht hs h;exact⟨_,tr,ts,S,e,⟨cA.refl _,hs⟩,ht,h,λQ hQ=>hQ⟩
  |bad=>intro oQ tr e ts S k cX ht hs h;cases h
  |rf g ps cV body ca cb N rK iha ihb=>
    intro oQ tr e ts S k cX ht hs h
    obtain ⟨h1,h2⟩:=fL (show bM (ee ca.jc (ee cb.jc (ps.all λp=>decide (p<N)))) (eC g tr λgv=>match gv with
      |.fn (.func kf) fs cs=>qF ts.len λl=>call ((l,G7 (dC call bj ca) (dC call bj cb) ps (qL rK tr) l)::bj) kf (ji (ji fs [.dc l]) cs) (TS.push ⟨l,ts.tr⟩ (pK .ready none)) (K0 l tr k)
      |_=>false) false=true from h)
    obtain⟨na,h3⟩:=gJ h1;obtain⟨nb,oO⟩:=gJ h3;obtain⟨gv,h4,h5⟩:=eK ht h2;split at h5<;>try cases h5
    rename_i kf fs cs;rw[xW,oC,oC]at h5;have hlen:=hs.1;obtain⟨oK,jN,wa,wb⟩:=oQ
    let i0:LI:=⟨.ready,none,ps,cV,body,e.keep rK,N⟩
    have bw:(TS.push ⟨ts.len,ts.tr⟩ (pK .ready none)).cO (S++[Ob.loop i0]):=TS.YI hs rfl;have I4:(S++[Ob.loop i0])[S.length]?=some (Ob.loop i0):=sM
    have WE:uu P ((ts.len,G7 (dC call bj ca) (dC call bj cb) ps (qL rK tr) ts.len)::bj) (S++[Ob.loop i0]):=by
      refine⟨cX.kept (cA.fq _ _),i0,⟨.ready,none,by rw[<-hlen];exact I4⟩,λargs ZW U c hU hl iU hr=>?_⟩;exact qnU (i0:=i0) (iha wa) (ihb wb) (XY ht rK).1 oK jN na nb oO hU hl iU hr
    obtain⟨r,S1,ez,pE,IM,g1,g2⟩:=ok _ _ _ _ _ _ WE bw h5;rw[<-hlen]at pE;unfold K0 at g2;obtain⟨o,k1,k2⟩:=TS.mw g1 g2;split at k2<;>try cases k2
    rename_i i;rw[<-hlen]at k1;obtain⟨j,j1,j2,j3⟩:=Ez k1;obtain⟨k3,k4⟩:=fL k2;have FP:∀st p,cA S (S1.set S.length (Ob.loop { j with st:=st,dM:=p })):=λst p=>(cA.fq S _).trans (IM.trans (cA.JQ j1 st p))
    have fin:∀x,(∀Q:dV,Q x e (S1.set S.length (Ob.loop { j with st:=.exhausted }))→match j.dM with
        |none=>Q .normal e (S1.set S.length (Ob.loop { j with st:=.exhausted }))
        |some .ret=>Q .ret e (S1.set S.length (Ob.loop { j with st:=.exhausted }))
        |some (.exit id)=>Q (.exit id) e (S1.set S.length (Ob.loop { j with st:=.exhausted }))
        |some _=>False)->∀Q:dV,Q x e (S1.set S.length (Ob.loop { j with st:=.exhausted }))->WP P (.rf g ps cV body ca cb N rK) Q e S:=by
      intro x hx Q hQ;simp only[WP];intro _ _;rw[h4];refine⟨_,pE,λr' U hr=>?_⟩;obtain⟨rfl,rfl⟩:=hr;exact⟨j,j1,by rw[j2];exact qhl k3,hx Q hQ⟩
    split at k4
    · rename_i hp;rw[hp]at j3;refine⟨_,tr,ez.set S.length (pK .exhausted none),_,e,⟨FP .exhausted j.dM,TS.yK g1 j1 (by cases j;simp only at j3;subst j3;rfl)⟩,ht,by rw[<-hlen]at k4;exact k4,fin .normal λQ hQ=>by cases j;simp only at j3;subst j3;exact hQ⟩
    · rename_i hp;rw[hp]at j3;refine⟨_,tr,ez.set S.length (pK .exhausted (some .ret)),_,e,⟨FP .exhausted j.dM,TS.yK g1 j1 (by cases j;simp only at j3;subst j3;rfl)⟩,ht,by rw[<-hlen]at k4;exact k4,fin .ret λQ hQ=>by cases j;simp only at j3;subst j3;exact hQ⟩
    · rename_i id hp;rw[hp]at j3;refine⟨_,tr,ez.set S.length (pK .exhausted (some (.exit id))),_,e,⟨FP .exhausted j.dM,TS.yK g1 j1 (by cases j;simp only at j3;subst j3;rfl)⟩,ht,by rw[<-hlen]at k4;exact k4,fin (.exit id) λQ hQ=>by cases j;simp only at j3;subst j3;exact hQ⟩
    · cases k4
def dF(T:Tb)(n:Nat):nH:=Nat.rec (motive:=λ_=>nH) (λ_ _ _ _ _=>false)
 (λ_ ih bj k args ts c=>Option.rec (Option.rec false (λf=>bM (Nat.ble (jn args) f.N) (dC ih bj f.body (Av args 0 .nil) ts (Ii f.rs c)) false) (T.fn k)) (λr=>c r ts) (T.pr k args)) n
def qd0{P:aG}{T:Tb}(ok:T.Ok P):∀n,O7 P (dF T n)
 |0=>λbj k args ts S c _ hs h=>by cases h
 |n+1=>λbj k args ts S c cX hs h=>by
  have h0:(Option.rec (Option.rec false (λf=>bM (Nat.ble (jn args) f.N) (dC (dF T n) bj f.body (Av args 0 .nil) ts (Ii f.rs c)) false) (T.fn k)) (λr=>c r ts) (T.pr k args):Bool)=true:=h
  cases hp:T.pr k args with
  |some r=>
   rw[hp]at h0;exact⟨r,S,ts,ok.pr _ _ _ hp S,cA.refl _,hs,h0⟩
  |none=>
   rw[hp]at h0
   cases hf:T.fn k with
   |none=>rw[hf]at h0;cases h0
   |some f=>
    rw[hf]at h0;obtain⟨h1,h2⟩:=fL (show bM (Nat.ble (jn args) f.N) (dC (dF T n) bj f.body (Av args 0 .nil) ts (Ii f.rs c)) false=true from h0);rw[rz]at h1;obtain⟨fn,g1,g2⟩:=ok.fn _ _ hf
    have cZ:(Av args 0 .nil).sub (jV 0 args):=by
     have:=UD args 0 .nil [] (λj v hj=>by rw[Tx.get_nil]at hj;cases hj) (λj v hj=>by cases hj);simpa using this
    obtain⟨x,bS,aM,S',e',a1,a2,a3,a4⟩:=qnw (qd0 ok n) f.body (qnq g2) cX cZ hs h2
    have fin:(x=.normal\/x=.ret)->(Ha f.rs bS aM λvs=>N7 vs λv=>c v aM)=true->∃r S' aM,aA P k args S (λv U=>v=r/\U=S')/\cA S S'/\aM.cO S'/\c r aM=true:=by
     intro hx hr;obtain⟨vs,b1,b2⟩:=SK a2 a1.2 hr;rw[qjw]at b2;refine⟨aY vs,S',aM,aA.intro g1 g2 (lr h1) (a4 _ ?_),a1.1,a1.2,b2⟩;rcases hx with rfl|rfl<;>exact⟨vs,b1,aY vs,S',dJ.refl _ _ _,rfl,rfl⟩
    cases x<;>first
     |exact fin (.inl rfl) a3
     |exact fin (.inr rfl) a3
     |(cases a3)
def gC(pX:Ag)(call:nH)(bj:jE)(c:C'):TE->TS->KC->Bool:=C'.rec (motive:=λ_=>TE->TS->KC->Bool)
 (λtr ts k=>k .normal tr ts)
 (λops tr ts k=>gO call bj ops tr ts λbS aM=>k .normal bS aM)
 (λds zs tr ts k=>zO zs ts λez=>fD pX ts.len ds ds tr ez [ez] λbS aM=>k .normal bS aM)
 (λds zs o tr ts k=>zO zs ts λez=>fD pX ts.len ds ds tr ez [ez] λbS aM=>gO call bj [o] bS aM λbS aM=>k .normal bS aM)
 (λ_ _ iha ihb tr ts k=>iha tr ts (Hj k λbS aM=>ihb bS aM k))
 (λc _ _ iha ihb tr ts k=>eC c tr λv=>Fj v λb=>bM b (iha tr ts k) (ihb tr ts k))
 (λid _ ih tr ts k=>ih tr ts (H2 id k))
 (λ_ ih tr ts k=>ih tr ts (SO k))
 (λ_ ih tr ts k=>Bl ih k Jt tr ts)
 (λid tr ts k=>k (.exit id) tr ts)
 (λtr ts k=>k .ret tr ts)
 (λ_ _ _=>false)
 (λg ps _ _ ca cb N rK iha ihb tr ts k=>rfG call bj g ps ca.jc cb.jc N rK iha ihb tr ts k) c
def qeT{P:aG}{bj:jE}{c:C'}{f:TE->TS->KC->Bool}(ih:Pj P bj c f){S0:St}(cX:uq P bj S0):
  ∀(n:Nat) {tr:TE} {e:ae} {ts:TS} {S:St} {k:KC},cA S0 S->tr.sub e->ts.cO S->Bl f k n tr ts=true->NL P c (Ph S0 k) n e S
 |0,tr,e,ts,S,k,_,_,_,h=>by cases h
 |n+1,tr,e,ts,S,k,hK,ht,hs,h=>by
  intro R hR;refine xK (λx e' S' hx=>?_) (ih cX hK ht hs (show f tr ts (Hj k (Bl f k n))=true from h));obtain⟨uQ,bS,aM,h1,h2,h3⟩:=hx;cases x<;>first
   |exact hR _ _ (qeT ih cX n uQ h1 h2 h3)
   |exact⟨uQ,bS,aM,h1,h2,h3⟩
def qpv{P:aG}{pX:Ag}(dok:O6 P pX){call:nH}(ok:TX P call){bj:jE}:∀(c:C'),Pj P bj c (gC pX call bj c):=by
  intro c
  induction c with
  |skip=>intro S0 tr e ts S k cX hK ht hs h;exact⟨hK,tr,ts,ht,hs,h⟩
  |reg ops=>
    intro S0 tr e ts S k cX hK ht hs h;exact Ix ok cX hK ht hs (show gO call bj ops tr ts (λbS aM=>k .normal bS aM)=true from h)
  |draw ds zs=>
    intro S0 tr e ts S k cX hK ht hs h;obtain⟨ez,g1,g2⟩:=N4 hs (show(zO zs ts λez=>fD pX ts.len ds ds tr ez [ez] λbS aM=>k .normal bS aM)=true from h);obtain⟨bS,aM,S',e',h1,h2,h3,h4⟩:=CX (S0:=S) dok ht g1 (.cons g1 .nil) ⟨cA.fq _ _,λU hU=>by rw[sZ]at hU;subst hU;exact cA.fq _ _⟩ g2;simp only[WP];rw[hs.1];exact h4 (Ph S0 k .normal) ⟨hK.trans h1.1,bS,aM,h2,h1.2,h3⟩
  |FB ds zs o=>
    intro S0 tr e ts S k cX hK ht hs h;obtain⟨ez,g1,g2⟩:=N4 hs (show(zO zs ts λez=>fD pX ts.len ds ds tr ez [ez] λbS aM=>gO call bj [o] bS aM λbS aM=>k .normal bS aM)=true from h);obtain⟨qp,qyS,S1,e1,h1,h2,h3,h4⟩:=CX (S0:=S) dok ht g1 (.cons g1 .nil) ⟨cA.fq _ _,λU hU=>by rw[sZ]at hU;subst hU;exact cA.fq _ _⟩ g2;simp only[WP];rw[hs.1];exact h4 (DU P o (Ph S0 k) .normal) (Ix ok cX (hK.trans h1.1) h2 h1.2 h3)
  |seq a b iha ihb=>
    intro S0 tr e ts S k cX hK ht hs h;simp only[WP];refine xK (λx e1 S1 hx=>?_) (iha cX hK ht hs (show gC pX call bj a tr ts (Hj k λbS aM=>gC pX call bj b bS aM k)=true from h));obtain⟨uQ,bS,aM,h1,h2,h3⟩:=hx;cases x<;>first
      |exact ihb cX uQ h1 h2 h3
      |exact⟨uQ,bS,aM,h1,h2,h3⟩
  |cond c a b iha ihb=>
    intro S0 tr e ts S k cX hK ht hs h;obtain⟨v,h1,h2⟩:=eK (x:=c) (c:=λv=>Fj v λt=>bM t (gC pX call bj a tr ts k) (gC pX call bj b tr ts k)) ht h;obtain⟨t,rfl,h3⟩:=Vb h2;simp only[WP,h1];cases t
    · exact⟨λh=>(by cases h),λ_=>ihb cX hK ht hs h3⟩
    · exact⟨λ_=>iha cX hK ht hs h3,λh=>(by cases h)⟩
  |block id c ih=>
    intro S0 tr e ts S k cX hK ht hs h;simp only[WP];refine xK (λx e1 S1 hx=>?_) (ih cX hK ht hs (show gC pX call bj c tr ts (H2 id k)=true from h));obtain⟨uQ,bS,aM,h1,h2,h3⟩:=hx;cases x<;>simp only[yG]<;>try exact⟨uQ,bS,aM,h1,h2,h3⟩
    rename_i i;simp only[H2,j9]at h3;split at h3
    · rename_i hi;rw[ak (kh hi)];exact⟨uQ,bS,aM,h1,h2,h3⟩
    · rename_i hi;rw[au (λhh=>hi (HW.2 hh))];exact⟨uQ,bS,aM,h1,h2,h3⟩
  |scope c ih=>
    intro S0 tr e ts S k cX hK ht hs h;simp only[WP];refine xK (λx e1 S1 hx=>?_) (ih cX hK ht hs (show gC pX call bj c tr ts (SO k)=true from h));obtain⟨uQ,bS,aM,h1,h2,h3⟩:=hx;cases x<;>first
      |(exact(by cases h3))
      |exact⟨uQ,bS,aM,h1,h2,h3⟩
  |loop c ih=>
    intro S0 tr e ts S k cX hK ht hs h;exact qgR (qeT ih cX Jt hK ht hs (show Bl (gC pX call bj c) k Jt tr ts=true from h))
  |exit id=>intro S0 tr e ts S k cX hK ht hs h;exact⟨hK,tr,ts,ht,hs,h⟩
  |ret=>intro S0 tr e ts S k cX hK ht hs h;exact⟨hK,tr,ts,ht,hs,h⟩
  |bad=>intro S0 tr e ts S k cX hK ht hs h;cases h
  |rf g ps cV body ca cb N rK iha ihb=>
    intro S0 tr e ts S k cX hK ht hs h
    obtain ⟨h1,h2⟩:=fL (show bM (ee ca.jc (ee cb.jc (ps.all λp=>decide (p<N)))) (eC g tr λgv=>match gv with
      |.fn (.func kf) fs cs=>qF ts.len λl=>call ((l,G7 (gC pX call bj ca) (gC pX call bj cb) ps (qL rK tr) l)::bj) kf (ji (ji fs [.dc l]) cs) (TS.push ⟨l,ts.tr⟩ (pK .ready none)) (K0 l tr k)
      |_=>false) false=true from h)
    obtain⟨na,h3⟩:=gJ h1;obtain⟨nb,oO⟩:=gJ h3;obtain⟨gv,h4,h5⟩:=eK ht h2;simp only[WP];intro oK jN;rw[h4];split at h5<;>try cases h5
    rename_i kf fs cs;rw[xW,oC,oC]at h5;have hlen:=hs.1
    let i0:LI:=⟨.ready,none,ps,cV,body,e.keep rK,N⟩
    have bw:(TS.push ⟨ts.len,ts.tr⟩ (pK .ready none)).cO (S++[Ob.loop i0]):=TS.YI hs rfl;have I4:(S++[Ob.loop i0])[S.length]?=some (Ob.loop i0):=sM
    have WE:uq P ((ts.len,G7 (gC pX call bj ca) (gC pX call bj cb) ps (qL rK tr) ts.len)::bj) (S++[Ob.loop i0]):=by
      refine⟨cX.kept (hK.trans (cA.fq _ _)),i0,⟨.ready,none,by rw[<-hlen];exact I4⟩,λargs ZW U c hU hl iU hr=>?_⟩;exact qvB (i0:=i0) iha ihb (XY ht rK).1 oK jN na nb oO hU hl iU hr
    have pE:=ok _ _ _ _ _ _ WE bw h5;rw[<-hlen]at pE;refine⟨_,pE,λr S' hr=>?_⟩;obtain⟨uQ,aM,g1,g2⟩:=hr;unfold K0 at g2;obtain⟨o,k1,k2⟩:=TS.mw g1 g2;split at k2<;>try cases k2
    rename_i i;obtain⟨j,j1,j2,j3⟩:=Ez k1;obtain⟨k3,k4⟩:=fL k2;have FP:∀st p,cA S0 (S'.set S.length (Ob.loop { j with st:=st,dM:=p })):=λst p=>hK.trans ((cA.fq S _).trans (uQ.trans (cA.JQ j1 st p)))
    refine⟨j,j1,by rw[j2];exact qhl k3,?_⟩;rw[j3];split at k4
    · rename_i hp;rw[hp]at j3 |-;exact⟨FP _ _,tr,_,ht,TS.yK g1 j1 rfl,k4⟩
    · rename_i hp;rw[hp]at j3 |-;exact⟨FP _ _,tr,_,ht,TS.yK g1 j1 rfl,k4⟩
    · rename_i id hp;rw[hp]at j3 |-;exact⟨FP _ _,tr,_,ht,TS.yK g1 j1 rfl,k4⟩
    · cases k4
def gF(T:Tb)(n:Nat):nH:=Nat.rec (motive:=λ_=>nH) (λ_ _ _ _ _=>false)
 (λn ih bj k args ts c=>Option.rec (Option.rec false (λf=>bM (Nat.ble (jn args) f.N) (gC (Ed (dF T n)) ih bj f.body (Av args 0 .nil) ts (Ii f.rs c)) false) (T.fn k)) (λr=>c r ts) (T.pr k args)) n
def qeP{P:aG}{T:Tb}(ok:T.Ok P):∀n,TX P (gF T n)
  |0=>λbj k args ts S c _ hs h=>by cases h
  |n+1=>λbj k args ts S c cX hs h=>by
    have h0:(Option.rec (Option.rec false (λf=>bM (Nat.ble (jn args) f.N) (gC (Ed (dF T n)) (gF T n) bj f.body (Av args 0 .nil) ts (Ii f.rs c)) false) (T.fn k)) (λr=>c r ts) (T.pr k args):Bool)=true:=h
    cases hp:T.pr k args with
    |some r=>
      rw[hp]at h0
      exact(ok.pr _ _ _ hp S).mono λr' S' hr=>by
        obtain⟨rfl,rfl⟩:=hr;exact⟨cA.refl _,ts,hs,h0⟩
    |none=>
      rw[hp]at h0
      cases hf:T.fn k with
      |none=>rw[hf]at h0;cases h0
      |some f=>
        rw[hf]at h0;obtain⟨h1,h2⟩:=fL (show bM (Nat.ble (jn args) f.N) (gC (Ed (dF T n)) (gF T n) bj f.body (Av args 0 .nil) ts (Ii f.rs c)) false=true from h0);rw[rz]at h1;obtain⟨fn,g1,g2⟩:=ok.fn _ _ hf
        have cZ:(Av args 0 .nil).sub (jV 0 args):=by
          have:=UD args 0 .nil [] (λj v hj=>by rw[Tx.get_nil]at hj;cases hj) (λj v hj=>by cases hj);simpa using this
        refine aA.intro g1 g2 (lr h1) (xK (λx e' S' hx=>?_) (qpv (Yu (qd0 ok n)) (qeP ok n) f.body cX (cA.refl S) cZ hs h2));obtain⟨hK,bS,aM,a1,a2,a3⟩:=hx;cases x<;>first
          |(cases a3;done)
          | (obtain ⟨vs,b1,b2⟩:=SK a1 a2 (show (Ha f.rs bS aM λvs=>N7 vs λv=>c v aM)=true from a3)
             rw[qjw]at b2
             exact⟨vs,b1,aY vs,S',dJ.refl _ _ _,hK,aM,a2,b2⟩)
def qpw{P:aG}{T:Tb}(ok:T.Ok P){n k:Nat}{args:List V}{ts:TS}{S:St}{c:V->TS->Bool}(hs:ts.cO S)(h:gF T n [] k args ts c=true):aA P k args S (KV S c):=qeP ok n [] k args ts S c trivial hs h
def aA.ghost{P:aG}{f:FuncId}{args:List V}{R:V->St->Prop}{r:V}(h:aA P f args [] R)(hg:∀v U,R v U->dJ 0 v U r []):aA P f args [] (λv U=>v=r/\U=[]):=
 ⟨h.1,λE w us n hs hv=>(h.2 E w us n hs hv).mono λe w' ⟨u,r0,E1,S1,h1,h2,h3,h4,h5,h6⟩=>by
  obtain⟨E2,g1,g2,g3,g4⟩:=hg r0 S1 h2 E1 w' u h4 h3 (fS _);exact⟨u,r,E2,[],h1,⟨rfl,rfl⟩,g1,g2,h5.trans g3,fS _⟩⟩
def aA.frame{P:aG}{f:FuncId}{args:List V}{r:V}(h:aA P f args [] (λv U=>v=r/\U=[]))(ha:∀v,v∈args->v.under 0=true)(hr:r.under 0=true)(S:St):aA P f args S (λv U=>v=r/\U=S):=by
 refine⟨h.1,λE w us n hs hv=>?_⟩;obtain⟨c1,c2⟩:=hs.cut (m:=0) (λo ho=>by simp at ho) (fS _);have c1:SR (E.cut 0) [] w:=by simpa using c1
 have iL:uJ (E.cut 0) args us:=⟨hv.1,λi v u h1 h2=>(hv.2 i v u h1 h2).cut (ha v (dZ h1))⟩;refine(h.2 (E.cut 0) w us n c1 iL).mono ?_;rintro e w' ⟨u,r0,E1,S1,h1,⟨rfl,rfl⟩,h3,h4,h5,h6⟩
 have cB:∀{E:En} {b:Nat},¬own E [] b:=by
  rintro E b ⟨l,st,x,⟨o,ho,_⟩,_⟩;simp at ho
 let E':En:={ I:=E1.I,ρ:=E.ρ }
 have hle:E.le E':=⟨λb o c hc=>h5.I b o c hc,λ_ _ _ hx=>hx⟩;have W0:En.le (E1.cut 0) E':=⟨λb o c hc=>hc,λl st x hx=>by simp[En.cut]at hx⟩;have dW:∀b,own E' S b->own E S b:=λb ⟨l,st,x,hl,hx,he⟩=>⟨l,st,x,hl,hx,he⟩
 have hI:∀b o c,E1.I b o=some c->E.I b o=some c\/w.heap.size<=b:=λb o c hc=>by
  rcases h5.JD b o c hc with hc|hc|hc
  .exact .inl hc
  .exact absurd hc cB
  .exact .inr hc
 refine ⟨u,r0,E',S,h1,⟨rfl,rfl⟩,(h3.cut hr).mono W0,⟨⟨h4.gl.1,h4.gl.2⟩,h4.I,λl o hl=>?_,hs.jI,λb o hb=>?_,λb hb=>?_,λl l' st bc x x' hl cj hx iG he=>hs.inj l l' st bc x x' hl cj hx iG he⟩,
  ⟨h5.size,hle.1,λ_ _ _ _ hx=>hx,λ_ _ hx=>hx,λb hb=>.inl (dW b hb),λb o c hc=>(hI b o c hc).imp id .inr,λb hb _=>h5.frame b hb cB,h5.out⟩,dl _⟩
 .by_cases hd:o=.dead
  .subst hd;trivial
  .exact(hs.fJ l o hl).mono hle (λ_ _ hx=>hx) λst x hx=>h5.frame _ (hs.lt _ ⟨l,st,x,⟨o,hl,hd⟩,hx,rfl⟩) cB
 .cases hc:E'.I b o with
  |none=>rfl
  |some c=>
   exfalso;rcases hI b o c hc with h| h
   .rw[hs.apart b o (dW b hb)]at h;cases h
   .have:=hs.lt b (dW b hb);omega
 .exact pT (hs.lt b (dW b hb)) h5.size
def VM(r:V)(n:Nat):V->TS->Bool:=Nat.rec (motive:=λ_=>V->TS->Bool) (λ_ _=>false)
 (λ_ ih v ts=>match V.HV 100 v with
  |[]=>ee (V.same v r) (r.under 0)
  |l::_=>ts.get l λo=>match o with
   |.arr xs _ wr=>ih (v.du l xs wr) (ts.set l .dead)
   |_=>false) n
def qeC{r:V}:∀(n:Nat) {v:V} {ts:TS} {S:St},ts.cO S->VM r n v ts=true->dJ 0 v S r []/\r.under 0=true
 |0,v,ts,S,_,h=>by cases h
 |n+1,v,ts,S,hs,h=>by
  have h:(match V.HV 100 v with
   |[]=>ee (V.same v r) (r.under 0)
   |l::_=>ts.get l λo=>match o with
    |.arr xs _ wr=>VM r n (v.du l xs wr) (ts.set l .dead)
    |_=>false)=true:=h
  split at h
  .obtain⟨h1,h2⟩:=gJ h;have:=Oj _ _ h1;subst this;exact⟨by simpa using dJ.cut (n:=0) (m:=0) (S:=S) h2 (λo ho=>by simp at ho) cz (fS _),h2⟩
  .obtain⟨o,h1,h2⟩:=TS.mw hs h;split at h2<;>try cases h2
   have h1:=Ey h1;obtain⟨g1,g2⟩:=qeC n (TS.Eu hs h1) h2;exact⟨(dJ.It h1).trans g1,g2⟩
def qen:TS:=⟨0,.nil⟩
def qn2:qen.cO []:=⟨rfl,λl hl=>(Nat.not_lt_zero _ hl).elim⟩
structure Pr where
 k:Nat
 args:List V
 r:V
def Pr.ok(P:aG)(p:Pr):Prop:=∀S,aA P p.k p.args S (λv U=>v=p.r/\U=S)
def Pr.find(k:Nat)(args:List V)(l:List Pr):Option V:=List.rec none (λp _ ih=>bM (Nat.beq p.k k) (bM (V.zU p.args args) (some p.r) ih) ih) l
def Pr.find_spec{P:aG}{k:Nat}{args:List V}{r:V}:∀{l:List Pr},(∀p,p∈l->p.ok P)->Pr.find k args l=some r->∀S,aA P k args S (λv U=>v=r/\U=S)
 |[],_,h=>by cases h
 |p::l,ok,h=>by
  have h:bM (Nat.beq p.k k) (bM (V.zU p.args args) (some p.r) (Pr.find k args l)) (Pr.find k args l)=some r:=h;rw[j9]at h;split at h
  .rename_i hk;rw[j9]at h;split at h
   .rename_i ha;cases h;have h1:=kh hk;have h2:=Ol _ _ ha;subst h1;subst h2;exact ok p sM
   .exact Pr.find_spec (λq hq=>ok q (by simp[hq])) h
  .exact Pr.find_spec (λq hq=>ok q (by simp[hq])) h
def Pr.run{P:aG}{T:Tb}(ok:T.Ok P)(n:Nat){p:Pr}(h:ee (ee (p.args.all λv=>v.under 0) (p.r.under 0)) (gF T n [] p.k p.args qen (VM p.r 1000))=true):p.ok P:=by
 obtain⟨h1,h2⟩:=gJ h;obtain⟨h1,hr⟩:=gJ h1;have hs:=qpw (P:=P) ok (S:=[]) qn2 h2;simp only[fR]at h1;exact(hs.ghost λv U ⟨_,aM,g1,g2⟩=>(qeC 1000 g1 g2).1).frame h1 hr
@[simp] def O'.o(d:Nat)(k:K):O':=⟨some d,none,k⟩
@[simp] def O'.n(k:K):O':=⟨none,none,k⟩
@[simp] def O'.v(d m:Nat)(b:Bool)(k:K):O':=⟨some d,some (m,b),k⟩
@[simp] def O'.m(d a:Nat):O':=⟨some d,none,.mv (.t a)⟩
@[simp] def O'.l(d a:Nat):O':=⟨some d,none,.ld none (.t a)⟩
@[simp] def O'.j(d k a:Nat):O':=⟨some d,none,.ld (some k) (.t a)⟩
@[simp] def O'.f(d k a:Nat):O':=⟨some d,none,.fa k (.t a)⟩
@[simp] def O'.i(d k a b:Nat):O':=⟨some d,none,.ia k (.t a) (.t b)⟩
@[simp] def O'.e(d k a:Nat):O':=⟨some d,none,.ext k (.t a)⟩
@[simp] def O'.h(d a:Nat):O':=⟨some d,none,.GW (.t a)⟩
@[simp] def O'.b(d:Nat)(o:BinOp)(a b:Nat):O':=⟨some d,none,.bin o (.t a) (.t b)⟩
@[simp] def O'.u(d:Nat)(o:BinOp)(a:Nat)(n:Int):O':=⟨some d,none,.bin o (.t a) (.c (.int .i64 n))⟩
@[simp] def O'.s(k a b:Nat):O':=⟨none,none,.oV k (.t a) (.t b)⟩
@[simp] def O'.y(d a m:Nat):O':=⟨some d,none,.pick (.t a) (.t m) (.c (.bool false))⟩
@[simp] def O'.z(d a m:Nat):O':=⟨some d,none,.pick (.t a) (.c (.bool true)) (.t m)⟩
@[simp] def O'.a(d:Nat)(v:V):O':=⟨some d,none,.mv (.c v)⟩
@[simp] def O'.c(d k a:Nat):O':=⟨some d,none,.call (.f k) [.t a]⟩
@[simp] def O'.w(d k a b:Nat):O':=⟨some d,none,.call (.f k) [.t a,.t b]⟩
@[simp] def O'.x(d k a b c:Nat):O':=⟨some d,none,.call (.f k) [.t a,.t b,.t c]⟩
@[simp] def D.p(o:O')(a:List Nat):D:=⟨o,false,none,false,a,0,0⟩
@[simp] def D.q(o:O')(w c:Bool)(a:List Nat)(l h:Nat):D:=⟨o,w,none,c,a,l,h⟩
@[simp] def O'.G(d:Nat)(n:Int):O':=⟨some d,none,.mv (.c (.int .i64 n))⟩
@[simp] def O'.F(d:Nat):O':=⟨some d,none,.mv (.c (.bool false))⟩
@[simp] def O'.T(d:Nat):O':=⟨some d,none,.mv (.c (.bool true))⟩
@[simp] def O'.B(d a:Nat):O':=⟨some d,none,.box (.t a)⟩
@[simp] def O'.L(d a:Nat):O':=⟨some d,none,.len false (.t a)⟩
@[simp] def O'.V(d m:Nat)(b:Bool)(a:Nat):O':=⟨some d,some (m,b),.mv (.t a)⟩
@[simp] def O'.N(d m:Nat)(b:Bool)(o:BinOp)(x y:Nat):O':=⟨some d,some (m,b),.bin o (.t x) (.t y)⟩
@[simp] def O'.M(d m:Nat)(b:Bool)(a:Nat):O':=⟨some d,some (m,b),.ld none (.t a)⟩
@[simp] def C'.d(n:Nat)(a b:C'):C':=.cond (.t n) a b
@[simp] def C'.k(l:List O')(c:C'):C':=.seq (.reg l) c
@[simp] abbrev z0:V:=.int .i64 0
@[simp] abbrev sN:V:=.sl true []
@[simp] abbrev zS:V:=(.agg [(.sl true []),(.int .i64 0),(.str ⟨⟨[]⟩⟩),(.sl true []),(.sl true []),(.sl true []),(.sl true []),(.sl true [])])
@[simp] abbrev zD:V:=(.agg [(.int .i64 0),(.bool false),(.int .i64 0),(.sl true []),(.sl true []),(.sl true []),(.sl true [])])
@[simp] abbrev zX:V:=(.agg [(.int .i64 0),(.int .i64 0),(.int .i64 0),(.int .i64 0),(.int .i64 0),(.str ⟨⟨[]⟩⟩),(.sl true [])])
@[simp] abbrev zE:V:=(.agg [(.int .i64 0),(.sl true [])])
@[simp] abbrev zF:V:=(.agg [(.str ⟨⟨[]⟩⟩),(.bool false),(.int .i64 0),(.int .i64 0)])
@[simp] abbrev zP:V:=(.agg [(.int .i64 0),(.sl true []),(.int .i64 0),(.str ⟨⟨[]⟩⟩),(.sl true []),(.sl true []),(.sl true []),(.sl true []),(.sl true []),(.int .i64 0),(.bool false),(.int .i64 0),(.sl true []),(.sl true []),(.sl true []),(.sl true []),(.int .i64 0),(.sl true []),(.int .i64 0),(.int .i64 0),(.int .i64 0),(.int .i64 0),(.int .i64 0),(.str ⟨⟨[]⟩⟩),(.sl true [])])
def YH{α:Type}[DecidableEq α]:∀(l:List α) (m:Nat) (f:Nat->α),(∀i j,i<m->j<m->f i=f j->i=j)->(∀i,i<m->f i∈l)->m<=l.length
 |[],m,f,_,h=>by
  cases m with
  |zero=>exact dl _
  |succ m=>exact absurd (h 0 oM) sM
 |a::l,m,f,yh,h=>by
  by_cases ha:∃i,i<m/\f i=a
  .obtain⟨i0,hi,he⟩:=ha;have hm:0<m:=oM
   have:=YH l (m - 1) (λj=>if j<i0 then f j else f (j+1)) (λi j eI fg hf=>by
    split at hf<;>split at hf
    .exact yh i j oM oM hf
    .have:=yh i (j+1) oM oM hf;omega
    .have:=yh (i+1) j oM oM hf;omega
    ·have:=yh (i+1) (j+1) oM oM hf;omega) (λj hj=>by
    split
    .rename_i aB;rcases dU.1 (h j oM) with h1|h1
     .have:=yh j i0 oM hi (h1.trans he.symm);omega
     .exact h1
    .rename_i Dt;rcases dU.1 (h (j+1) oM) with h1|h1
     .have:=yh (j+1) i0 oM hi (h1.trans he.symm);omega
     .exact h1)
   simp;omega
  .have:=YH l m f yh λi hi=>by
    rcases dU.1 (h i hi) with h1|h1
    .exact absurd ⟨i,hi,h1⟩ ha
    .exact h1
   simp;omega
def iZ(n:Nat):List UInt8:=Lib.decDigits n
def Ax{n:Nat}(h:n<10):iZ n=[UInt8.ofNat (48+n)]:=by unfold iZ;rw[Lib.decDigits];rw[dif_pos h]
def AA{n:Nat}(h:¬n<10):iZ n=iZ (n/10)++[UInt8.ofNat (48+n%10)]:=by unfold iZ;rw[Lib.decDigits];rw[dif_neg h]
def Vs{n:Nat}(h:n<10000):1<=(iZ n).length/\(iZ n).length<=4:=by
 by_cases h1:n<10
 .rw[Ax h1];simp
 rw[AA h1];by_cases h2:n/10<10
 .rw[Ax h2];simp
 rw[AA h2];by_cases h3:n/10/10<10
 .rw[Ax h3];simp
 rw[AA h3,Ax oM];simp
def qef{n:Nat}(h:n<900):iZ (100+n)=[UInt8.ofNat (48+(100+n)/10/10),UInt8.ofNat (48+(100+n)/10%10),UInt8.ofNat (48+(100+n)%10)]:=by
 rw[AA oM,AA oM,Ax oM];rfl
def jl(s:Bz)(n:Nat):Bz:=⟨(s.data.toList.take (min s.size (16-(iZ n).length))++iZ n).toArray⟩
def ZX{a b:Nat}(ha:a<256)(hb:b<256)(h:UInt8.ofNat a=UInt8.ofNat b):a=b:=by
 have:=mn UInt8.toNat h;simpa[KQ ha,KQ hb]using this
def qmW{s:Bz}{i j:Nat}(hi:i<900)(hj:j<900)(h:jl s (100+i)=jl s (100+j)):i=j:=by
 unfold jl at h;rw[qef hi,qef hj]at h;simp only[ByteArray.mk.injEq,gq,qy]at h;have h:=mn Array.toList h;simp only[List.append_cancel_left_eq,List.cons.injEq,and_true]at h;obtain⟨h1,h2,h3⟩:=h;have h1:=ZX oM oM h1;have h2:=ZX oM oM h2;have h3:=ZX oM oM h3;omega
end Go.Proofs.YtbifpocccfkhhaaGreatDoor
namespace Go.Proofs
open Go.Shelf
open Go.Lib in
open Go.Lib in
open Go.Lib in
open Go.Lib in
open Go.RowKit Go.Sort Go.Lib in
open Go.RowKit Go.Sort Go.Lib in
open Go.RowKit Go.Sort Go.Lib in
open Go.RowKit Go.Sort Go.Lib in
open Go.RowKit Go.Sort Go.Lib in
def Tryz.laysM171_ren:Go.Shelf.Ren:=⟨fun|171=>129|243=>167|246=>196|283=>234|284=>235|285=>236|286=>237|129=>248|317=>259|318=>260|319=>261|320=>262|337=>274|338=>275|n=>n,fun|3=>3|9=>9|2=>2|4=>4|171=>238|0=>0|53=>239|37=>141|5=>5|173=>242|212=>264|51=>254|20=>20|213=>265|46=>213|232=>290|233=>291|n=>n,fun|17=>2|18=>3|19=>4|n=>n⟩
theorem Tryz.laysM171:Go.Proofs.LaysM.n171 Tryz.prog Tryz.laysM171_ren:=by constructor<;>intros<;>first|kernel_rfl|(constructor<;>intros<;>kernel_rfl)
open Go.RowKit Go.Sort Go.Lib in
theorem Tryz.strconv_Itoa (n : Int) (h0 : -9223372036854775808 ≤ n) (h1 : n ≤ 9223372036854775807) (w : World) (qrS : Lib.TabIs Tryz.prog w "internal/strconv.uint64pow10" .u64 Lib.pow10Tab) :
 Calls Tryz.prog 129 #[.int .i64 n] w λe w'=>e=.returned (.string ⟨(Lib.itoa n).toArray⟩)/\∃k os,w'=grow (w.drewN k) os:=Any.strconv_Itoa Tryz.laysM171 n h0 h1 w qrS
end Go.Proofs
end
