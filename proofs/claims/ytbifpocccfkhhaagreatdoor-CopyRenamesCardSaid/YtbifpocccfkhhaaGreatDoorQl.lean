/- A part. -/
import Derived.Test.YtbifpocccfkhhaaGreatDoorQk
set_option linter.all false
namespace Go.Proofs.YtbifpocccfkhhaaGreatDoor
open Go
structure Rp where
 fresh:List ByteArray
 fro:List ByteArray
 to:List Ex
structure Rst where
 free:List ByteArray
 bad:Bool
 caught:Bool
def Scs.flat:Scs→Sco
 | []=>[]
 | s::r=>Scs.flat r++s
def mtL:List ByteArray→List Ex→ByteArray→Option Ex
 | f::fs,e::es,x=>if f=x then some e else mtL fs es x
 | _,_,_=>none
def mt(r:Rp)(x:ByteArray):Option Ex:=mtL r.fro r.to x
def rren(r:Rp)(sc:Scs)(x:ByteArray):ByteArray:=match sc.at x with
 | some k=>(r.fresh[k]?).getD x
 | none=>x
def ruse(r:Rp)(sc:Scs)(x:ByteArray)(st:Rst):Rst:=match sc.at x with
 | some _=>st
 | none=>{ free:=st.free++[x],bad:=st.bad,caught:=st.caught || (match mt r x with
  | some e=>decide (e.kind=6) && (Scs.flat sc).any fun p=>decide (p.1=e.text)
  | none=>false) }
def rmt(r:Rp)(sc:Scs)(x:ByteArray):Option Ex:=match sc.at x with
 | some _=>none
 | none=>mt r x
def qb4(r:Rp)(sc:Scs)(x:ByteArray):ByteArray:=match rmt r sc x with
 | some e=>if e.kind=6 then e.text else x
 | none=>rren r sc x
def qbl(r:Rp)(sc:Scs)(x:ByteArray)(st:Rst):Rst:={ ruse r sc x st with bad:=(ruse r sc x st).bad || (match rmt r sc x with
 | some e=>!decide (e.kind=6)
 | none=>false) }
mutual
def Ex.rw(r:Rp)(sc:Scs):Ex→Ex
 | .mk k o n m e t a=>if k=6 then (match rmt r sc t with
   | some x=>x
   | none=>.mk 6 0 0 0 0 (rren r sc t) [])
  else .mk k o n m e (if k=7∨k=8 then qb4 r sc t else t) (Ex.rwl r sc a)
def Ex.rwl(r:Rp)(sc:Scs):List Ex→List Ex
 | []=>[]
 | x::l=>Ex.rw r sc x::Ex.rwl r sc l
end
theorem Ex.rwl_map(r:Rp)(sc:Scs):∀l,Ex.rwl r sc l=l.map (Ex.rw r sc)
 | []=>rfl
 | x::l=>by rw[Ex.rwl,Ex.rwl_map r sc l];rfl
mutual
def Ex.rs(r:Rp)(sc:Scs)(st:Rst):Ex→Rst
 | .mk k _ _ _ _ t a=>if k=6 then ruse r sc t st else Ex.rsl r sc (if k=7∨k=8 then qbl r sc t st else st) a
def Ex.rsl(r:Rp)(sc:Scs)(st:Rst):List Ex→Rst
 | []=>st
 | x::l=>Ex.rsl r sc (Ex.rs r sc st x) l
end
theorem Ex.rsl_append(r:Rp)(sc:Scs):∀(l m:List Ex) (st:Rst),Ex.rsl r sc st (l++m)=Ex.rsl r sc (Ex.rsl r sc st l) m
 | [],m,h=>rfl
 | x::l,m,h=>by simp only[qt8,Ex.rsl];exact Ex.rsl_append r sc l m _
def qeU(l:List Ex):Bool:=l.any fun x=>decide (x.kind≠6) && decide (x.kind≠7)
def El.rw(r:Rp)(sc:Scs)(e:El):El:=⟨e.kind,Ex.rwl r sc e.exps⟩
def El.rsl(r:Rp)(sc:Scs)(st:Rst)(l:List El):Rst:=l.foldl (fun st e=>Ex.rsl r sc st e.exps) st
def Fo.rw(r:Rp)(sc:Scs)(x:Fo):Fo:=⟨rren r sc x.name,x.value,x.spec,x.type⟩
def tgS(r:Rp)(sc:Scs)(st:Rst)(l:List Ex):Rst:={ Ex.rsl r sc st l with bad:=(Ex.rsl r sc st l).bad || qeU (Ex.rwl r sc l) }
mutual
def Sm.rw(r:Rp)(sc:Scs)(n:Nat):Sm→Sm
 | .mk l k t g e h d b=>
  if k=7 then
   .mk (l.map (rren r sc)) k t g e h (De.rwl r (qad (qag d b) n::sc) sc (n+(qad (qag d b) n).length) d) (Sm.rwl r (qad (qag d b) n::sc) (n+(qad (qag d b) n).length+De.nbl d) b)
  else if k=8 then
   .mk (l.map (rren r sc)) k t g e h d (Sm.rwl r (qad (qak b) n::sc) (n+(qad (qak b) n).length) b)
  else .mk (l.map (rren r sc)) k (if k=6 then qb4 r sc t else t) (Ex.rwl r sc g) (Ex.rwl r sc e) (h.map (El.rw r sc)) d (Sm.rw1 r sc n b)
def De.rw(r:Rp)(own sc:Scs)(n:Nat):De→De
 | .mk k o t nm e fo b=>
  if k=4 then .mk k o t (nm.map (rren r own)) (Ex.rwl r own e) (fo.map (Fo.rw r (qad (fo.map Fo.name) n::own))) (Sm.rw1 r (qad (fo.map Fo.name) n::own) (n+(qad (fo.map Fo.name) n).length) b)
  else .mk k o t (nm.map (rren r own)) (Ex.rwl r (if k=2 then sc else own) e) fo b
def De.rwl(r:Rp)(own sc:Scs)(n:Nat):List De→List De
 | []=>[]
 | x::l=>De.rw r own sc n x::De.rwl r own sc (n+De.nb x) l
def Sm.rwl(r:Rp)(sc:Scs)(n:Nat):List Sm→List Sm
 | []=>[]
 | x::l=>Sm.rw r sc n x::Sm.rwl r sc (n+Sm.nb x) l
def Sm.rw1(r:Rp)(sc:Scs)(n:Nat):List Sm→List Sm
 | []=>[]
 | x::l=>Sm.rw r (qad x.labels n::sc) (n+(qad x.labels n).length) x::Sm.rw1 r sc (n+(qad x.labels n).length+Sm.nb x) l
end
mutual
def Sm.rs(r:Rp)(sc:Scs)(n:Nat)(st:Rst):Sm→Rst
 | .mk _ k t g e h d b=>
  if k=7 then Sm.rsl r (qad (qag d b) n::sc) (n+(qad (qag d b) n).length+De.nbl d) (De.rsl r (qad (qag d b) n::sc) sc (n+(qad (qag d b) n).length) st d) b
  else if k=8 then Sm.rsl r (qad (qak b) n::sc) (n+(qad (qak b) n).length) st b
  else Sm.rs1 r sc n (Ex.rsl r sc (El.rsl r sc (tgS r sc (if k=6 then qbl r sc t st else st) g) h) e) b
def De.rs(r:Rp)(own sc:Scs)(n:Nat)(st:Rst):De→Rst
 | .mk k _ _ _ e fo b=>
  if k=4 then Sm.rs1 r (qad (fo.map Fo.name) n::own) (n+(qad (fo.map Fo.name) n).length) (Ex.rsl r own st e) b
  else Ex.rsl r (if k=2 then sc else own) st e
def De.rsl(r:Rp)(own sc:Scs)(n:Nat)(st:Rst):List De→Rst
 | []=>st
 | x::l=>De.rsl r own sc (n+De.nb x) (De.rs r own sc n st x) l
def Sm.rsl(r:Rp)(sc:Scs)(n:Nat)(st:Rst):List Sm→Rst
 | []=>st
 | x::l=>Sm.rsl r sc (n+Sm.nb x) (Sm.rs r sc n st x) l
def Sm.rs1(r:Rp)(sc:Scs)(n:Nat)(st:Rst):List Sm→Rst
 | []=>st
 | x::l=>Sm.rs1 r sc (n+(qad x.labels n).length+Sm.nb x) (Sm.rs r (qad x.labels n::sc) (n+(qad x.labels n).length) st x) l
end
def nms(l:List ByteArray):List ByteArray:=(qad l 0).map (·.1)
mutual
def Sm.bn:Sm→List ByteArray
 | .mk _ k _ _ _ _ d b=>if k=7 then nms (qag d b)++De.bnl d++Sm.bnl b else if k=8 then nms (qak b)++Sm.bnl b else Sm.bn1 b
def De.bn:De→List ByteArray
 | .mk k _ _ _ _ f b=>if k=4 then nms (f.map Fo.name)++Sm.bn1 b else []
def De.bnl:List De→List ByteArray
 | []=>[]
 | x::l=>De.bn x++De.bnl l
def Sm.bnl:List Sm→List ByteArray
 | []=>[]
 | x::l=>Sm.bn x++Sm.bnl l
def Sm.bn1:List Sm→List ByteArray
 | []=>[]
 | x::l=>nms x.labels++Sm.bn x++Sm.bn1 l
end
theorem qbX(l:List ByteArray):(nms l).length=(qad l 0).length:=qt2 _
mutual
theorem Sm.bn_length:∀s:Sm,s.bn.length=s.nb
 | .mk _ k _ _ _ _ d b=>by
  simp only[Sm.bn,Sm.nb];split
  ·rw[qub,qub,qbX,De.bnl_length d,Sm.bnl_length b]
  ·split
   ·rw[qub,qbX,Sm.bnl_length b]
   ·exact Sm.bn1_length b
theorem De.bn_length:∀s:De,s.bn.length=s.nb
 | .mk k _ _ _ _ f b=>by
  simp only[De.bn,De.nb];split
  ·rw[qub,qbX,Sm.bn1_length b]
  ·rfl
theorem De.bnl_length:∀s:List De,(De.bnl s).length=De.nbl s
 | []=>rfl
 | x::l=>by simp only[De.bnl,De.nbl,qub,De.bn_length x,De.bnl_length l]
theorem Sm.bnl_length:∀s:List Sm,(Sm.bnl s).length=Sm.nbl s
 | []=>rfl
 | x::l=>by simp only[Sm.bnl,Sm.nbl,qub,Sm.bn_length x,Sm.bnl_length l]
theorem Sm.bn1_length:∀s:List Sm,(Sm.bn1 s).length=Sm.nb1 s
 | []=>rfl
 | x::l=>by simp only[Sm.bn1,Sm.nb1,qub,qbX,Sm.bn_length x,Sm.bn1_length l]
end
theorem Sm.bnl_append:∀(l m:List Sm),Sm.bnl (l++m)=Sm.bnl l++Sm.bnl m
 | [],m=>rfl
 | x::l,m=>by simp only[qt8,Sm.bnl,Sm.bnl_append l m,qt5]
theorem De.bnl_append:∀(l m:List De),De.bnl (l++m)=De.bnl l++De.bnl m
 | [],m=>rfl
 | x::l,m=>by simp only[qt8,De.bnl,De.bnl_append l m,qt5]
theorem Sm.bn1_append:∀(l m:List Sm),Sm.bn1 (l++m)=Sm.bn1 l++Sm.bn1 m
 | [],m=>rfl
 | x::l,m=>by simp only[qt8,Sm.bn1,Sm.bn1_append l m,qt5]
theorem Sm.rwl_append(p:Rp)(sc:Scs):∀(l m:List Sm) (n:Nat),Sm.rwl p sc n (l++m)=Sm.rwl p sc n l++Sm.rwl p sc (n+Sm.nbl l) m
 | [],m,n=>by simp[Sm.rwl,Sm.nbl]
 | x::l,m,n=>by simp only[qt8,Sm.rwl,Sm.nbl,Sm.rwl_append p sc l m,quN]
theorem De.rwl_append(p:Rp)(own sc:Scs):∀(l m:List De) (n:Nat),De.rwl p own sc n (l++m)=De.rwl p own sc n l++De.rwl p own sc (n+De.nbl l) m
 | [],m,n=>by simp[De.rwl,De.nbl]
 | x::l,m,n=>by simp only[qt8,De.rwl,De.nbl,De.rwl_append p own sc l m,quN]
theorem Sm.rw1_append(p:Rp)(sc:Scs):∀(l m:List Sm) (n:Nat),Sm.rw1 p sc n (l++m)=Sm.rw1 p sc n l++Sm.rw1 p sc (n+Sm.nb1 l) m
 | [],m,n=>by simp[Sm.rw1,Sm.nb1]
 | x::l,m,n=>by
  have:=qa3 x.labels n 0;simp only[qt8,Sm.rw1,Sm.nb1,Sm.rw1_append p sc l m,this,quN]
theorem Sm.rsl_append(p:Rp)(sc:Scs):∀(l m:List Sm) (n:Nat) (h:Rst),Sm.rsl p sc n h (l++m)=Sm.rsl p sc (n+Sm.nbl l) (Sm.rsl p sc n h l) m
 | [],m,n,h=>by simp[Sm.rsl,Sm.nbl]
 | x::l,m,n,h=>by simp only[qt8,Sm.rsl,Sm.nbl,Sm.rsl_append p sc l m,quN]
theorem De.rsl_append(p:Rp)(own sc:Scs):∀(l m:List De) (n:Nat) (h:Rst),De.rsl p own sc n h (l++m)=De.rsl p own sc (n+De.nbl l) (De.rsl p own sc n h l) m
 | [],m,n,h=>by simp[De.rsl,De.nbl]
 | x::l,m,n,h=>by simp only[qt8,De.rsl,De.nbl,De.rsl_append p own sc l m,quN]
theorem Sm.rs1_append(p:Rp)(sc:Scs):∀(l m:List Sm) (n:Nat) (h:Rst),Sm.rs1 p sc n h (l++m)=Sm.rs1 p sc (n+Sm.nb1 l) (Sm.rs1 p sc n h l) m
 | [],m,n,h=>by simp[Sm.rs1,Sm.nb1]
 | x::l,m,n,h=>by
  have:=qa3 x.labels n 0;simp only[qt8,Sm.rs1,Sm.nb1,Sm.rs1_append p sc l m,this,quN]
theorem qmr(p:Rp)(sc:Scs):∀(m:List Sm) (n:Nat),(Sm.rwl p sc n m).length=m.length
 | [],_=>rfl
 | x::m,n=>by simp only[Sm.rwl,quy,qmr p sc m]
theorem qlD(p:Rp)(sc:Scs):∀(m:List Sm) (n:Nat),(Sm.rw1 p sc n m).length=m.length
 | [],_=>rfl
 | x::m,n=>by simp only[Sm.rw1,quy,qlD p sc m]
theorem qjh(p:Rp)(own sc:Scs):∀(m:List De) (n:Nat),(De.rwl p own sc n m).length=m.length
 | [],_=>rfl
 | x::m,n=>by simp only[De.rwl,quy,qjh p own sc m]
def Sm.wholeQ(r:Rp)(s:Sm):Sm:=s.rw r [qad s.labels 0] (qad s.labels 0).length
structure HInv(p:Pw)(Q:List ByteArray→p.H→Prop):Prop where
 e:∀{l h} x,Q l h→Q (l++[x]) (p.ent h l.length x)
 n:∀{l h} x sc tg,Q l h→Q l (p.nmH h x sc tg)
 c:∀{l h} x sc,Q l h→Q l (p.clH h x sc)
theorem qif(p:Pw)(h:p.H)(s:Sco)(e:ByteArray×Nat):enters p h (s++[e])=p.ent (enters p h s) e.2 e.1:=by unfold enters;rw[quL];rfl
theorem qoQ(x:ByteArray)(l:List ByteArray):nms (l++[x])=if ((qad l 0).at x).isSome then nms l else nms l++[x]:=by
 unfold nms;rw[qbU];split <;> simp
theorem qgJ(x:ByteArray)(n:Nat):∀(k:Nat) (l:List ByteArray),l.length≤k→((qad l n).at x).isSome=((qad l 0).at x).isSome
 | _,[],_=>rfl
 | 0,_::_,h=>by simp at h
 | k+1,y::l',h=>by
  obtain ⟨l,z,hl⟩:∃l z,y::l'=l++[z]:=⟨(y::l').dropLast,(y::l').getLast (by simp),(List.dropLast_concat_getLast _).symm⟩;rw[hl] at h ⊢;have hk:l.length≤k:=by simp at h;exact h
  rw[qbU,qbU,qgJ z n k l hk];have ih:=qgJ x n k l hk;split
  ·exact ih
  ·unfold Sco.at at *;rw[qvo,qvo];cases h1:List.find? (fun e=>decide (e.1=x)) (qad l n) <;> cases h2:List.find? (fun e=>decide (e.1=x)) (qad l 0) <;> simp[h1,h2] at ih ⊢;split <;> rfl
section
variable {p:Pw} {Q:List ByteArray→p.H→Prop} (i:HInv p Q)
include i
theorem HInv.enters{l:List ByteArray}{h:p.H}(hq:Q l h):∀(k:Nat) (a:List ByteArray),a.length≤k→Q (l++nms a) (enters p h (qad a l.length))
 | _,[],_=>by simpa[nms,qad,binds,Go.Proofs.YtbifpocccfkhhaaGreatDoor.enters] using hq
 | 0,_::_,h=>by simp at h
 | k+1,y::l',hk=>by
  obtain ⟨a,z,hl⟩:∃a z,y::l'=a++[z]:=⟨(y::l').dropLast,(y::l').getLast (by simp),(List.dropLast_concat_getLast _).symm⟩;rw[hl] at hk ⊢;have hk:a.length≤k:=by simp at hk;exact hk
  have ih:=HInv.enters hq k a hk;rw[qbU,qoQ,qgJ z l.length k a hk];split
  ·exact ih
  ·rw[qif,←qt5];have h2:(l++nms a).length=l.length+(qad a l.length).length:=by rw[qub,qbX,qa3 a l.length 0]
   have h3:=i.e z ih;rw[h2] at h3;exact h3
theorem HInv.nmS{l:List ByteArray}{h:p.H}(sc:Scs)(tg:Bool)(x:Ex)(hq:Q l h):Q l (p.nmS sc tg h x):=by
 unfold Pw.nmS;split
 ·split
  ·exact hq
  ·exact i.n _ _ _ hq
 ·exact hq
theorem HInv.clS{l:List ByteArray}{h:p.H}(sc:Scs)(k:Int)(t:ByteArray)(hq:Q l h):Q l (p.clS sc k h t):=by
 unfold Pw.clS;split
 ·split
  ·exact hq
  ·exact i.c _ _ hq
 ·exact hq
mutual
theorem HInv.ex{l:List ByteArray}(sc:Scs)(tg:Bool):∀(x:Ex) {h:p.H},Q l h→Q l (x.hs p sc tg h)
 | .mk k o n m e t a,h,hq=>by simp only[Ex.hs];exact i.nmS _ _ _ (HInv.exl sc false a hq)
theorem HInv.exl{l:List ByteArray}(sc:Scs)(tg:Bool):∀(x:List Ex) {h:p.H},Q l h→Q l (Ex.hsl p sc tg h x)
 | [],h,hq=>hq
 | x::r,h,hq=>by simp only[Ex.hsl];exact HInv.exl sc tg r (HInv.ex sc tg x hq)
end
theorem HInv.el{l:List ByteArray}(sc:Scs):∀(x:List El) {h:p.H},Q l h→Q l (El.hsl p sc h x)
 | [],h,hq=>hq
 | x::r,h,hq=>HInv.el sc r (h:=Ex.hsl p sc false h x.exps) (i.exl sc false x.exps hq)
omit i in
theorem qe9(l a:List ByteArray):(l++nms a).length=l.length+(qad a l.length).length:=by rw[qub,qbX,qa3 a l.length 0]
mutual
theorem HInv.sm(sc:Scs){l:List ByteArray}:∀(s:Sm) {h:p.H},Q l h→Q (l++s.bn) (s.hs p sc l.length h)
 | .mk lb k t g e el d b,h,hq=>by
  simp only[Sm.hs,Sm.bn];split
  ·have h1:=i.enters (i.exl sc true g hq) _ (qag d b) (qt1 _);rw[←qe9];have h2:=HInv.del (qad (qag d b) l.length::sc) sc d h1;have h3:=HInv.sml (qad (qag d b) l.length::sc) b h2;rw[qub,De.bnl_length] at h3;rw[←qt5,←qt5];exact h3
  ·split
   ·have h1:=i.enters (i.exl sc true g hq) _ (qak b) (qt1 _);rw[←qe9];have h3:=HInv.sml (qad (qak b) l.length::sc) b h1;rw[←qt5];exact h3
   ·exact i.clS _ _ _ (HInv.sm1 sc b (i.el sc el (i.exl sc false e (i.exl sc true g hq))))
theorem HInv.de(own sc:Scs){l:List ByteArray}:∀(d:De) {h:p.H},Q l h→Q (l++d.bn) (d.hs p own sc l.length h)
 | .mk k o t nm e f b,h,hq=>by
  simp only[De.hs,De.bn];split
  ·have h1:=i.enters (i.exl own false e hq) _ (f.map Fo.name) (qt1 _);rw[←qe9,←qt5];exact HInv.sm1 _ b h1
  ·rw[qu4];exact i.exl _ _ e hq
theorem HInv.del(own sc:Scs){l:List ByteArray}:∀(d:List De) {h:p.H},Q l h→Q (l++De.bnl d) (De.hsl p own sc l.length h d)
 | [],h,hq=>by simpa[De.bnl,De.hsl] using hq
 | x::r,h,hq=>by
  have h1:=HInv.del own sc r (HInv.de own sc x hq);rw[qub,De.bn_length,qt5] at h1;simp only[De.bnl,De.hsl];exact h1
theorem HInv.sml(sc:Scs){l:List ByteArray}:∀(s:List Sm) {h:p.H},Q l h→Q (l++Sm.bnl s) (Sm.hsl p sc l.length h s)
 | [],h,hq=>by simpa[Sm.bnl,Sm.hsl] using hq
 | x::r,h,hq=>by
  have h1:=HInv.sml sc r (HInv.sm sc x hq);rw[qub,Sm.bn_length,qt5] at h1;simp only[Sm.bnl,Sm.hsl];exact h1
theorem HInv.sm1(sc:Scs){l:List ByteArray}:∀(s:List Sm) {h:p.H},Q l h→Q (l++Sm.bn1 s) (Sm.hs1 p sc l.length h s)
 | [],h,hq=>by simpa[Sm.bn1,Sm.hs1] using hq
 | x::r,h,hq=>by
  have h0:=i.enters hq _ x.labels (qt1 _);have h1:=HInv.sm1 sc r (HInv.sm (qad x.labels l.length::sc) x h0);rw[qub,Sm.bn_length,qe9,qt5,qt5] at h1;simp only[Sm.bn1,Sm.hs1,qt5];exact h1
end
end
theorem HInv.cn{c:Cb}(ok:c.Ok):HInv c.toPw fun l h=>c.cn h l.length:=⟨fun x h=>by rw[qub];exact ok.ce x h,fun x sc tg h=>ok.cm x sc tg h,fun x sc h=>ok.cc x sc h⟩
section
variable {c:Cb} (ok:c.Ok)
include ok
theorem qti{n:Nat}{h:c.H}(sc:Scs)(tg:Bool)(x:List Ex)(k:c.cn h n):c.cn (Ex.hsl c.toPw sc tg h x) n:=by
 have:=(HInv.cn ok).exl (l:=List.replicate n ⟨⟨[]⟩⟩) sc tg x (h:=h) (by simpa using k);simpa using this
theorem qsz{n:Nat}{h:c.H}(a:List ByteArray)(k:c.cn h n):c.cn (enters c.toPw h (qad a n)) (n+(qad a n).length):=by
 have:=(HInv.cn ok).enters (l:=List.replicate n ⟨⟨[]⟩⟩) (h:=h) (by simpa using k) _ a (qt1 _);simp only[qe9] at this;simpa using this
theorem qsV{n:Nat}{h:c.H}(sc:Scs)(s:List Sm)(k:c.cn h n):c.cn (Sm.hsl c.toPw sc n h s) (n+Sm.nbl s):=by
 have:=(HInv.cn ok).sml (l:=List.replicate n ⟨⟨[]⟩⟩) sc s (h:=h) (by simpa using k);simp only[qub,Sm.bnl_length] at this;simpa using this
end
open Go.Proofs.Tryz
def Gw(sz n0 w:Nat)(F D:Nat→Prop)(xs:List V)(v:V)(S:St):Prop:=(xs=[]∧v=.sl true [])∨∃l wr,n0≤l∧Off w F D l∧v=.arr l 0 xs.length xs.length∧S[l]?=some (.arr xs sz wr)∧wr≤xs.length
theorem Gw.nil(sz n0 w:Nat)(F D:Nat→Prop)(S:St):Gw sz n0 w F D [] (.sl true []) S:=.inl ⟨rfl,rfl⟩
theorem Gw.step{sz n0 w:Nat}{F D F' D':Nat→Prop}{xs:List V}{v:V}{S U:St}(h:Gw sz n0 w F D xs v S)(s:Stp w F D S F' D' U):Gw sz n0 w F' D' xs v U:=by
 rcases h with h|⟨l,wr,h1,h2,h3,h4,h5⟩
 ·exact .inl h
 ·exact .inr ⟨l,wr,h1,h2.next (qtV.1 h4).1 s,h3,s.at h2 h4,h5⟩
theorem Gw.push{sz n0 w:Nat}{F D:Nat→Prop}{xs:List V}{v:V}{S:St}(h:Gw sz n0 w F D xs v S)(os:List Ob):Gw sz n0 w F D xs v (S++os):=by
 rcases h with h|⟨l,wr,h1,h2,h3,h4,h5⟩
 ·exact .inl h
 ·exact .inr ⟨l,wr,h1,h2,h3,by rw[qt0 (qtV.1 h4).1];exact h4,h5⟩
theorem Gw.app1{c:Cb}(ok:c.Ok){sz w n bytes:Nat}{hh:c.H}{F0 D0 F D:Nat→Prop}{xs:List V}{y v:V}{S0 S:St}{b:Bool}(h:Gw sz S0.length w F D xs v S)(k:Wk c w n hh F D S)(s:Stp w F0 D0 S0 F D S)(hy:fits sz [y]=true)(hr:(xs.length+1) * bytes≤2 ^ 47):
  ∃v' S',appS S sz bytes v (.sl b [y])=some (v',S')∧Gw sz S0.length w F D (xs++[y]) v' S'∧Wk c w n hh F D S'∧Stp w F0 D0 S0 F D S':=by
 have hlen:=s.k.len;rcases h with ⟨rfl,rfl⟩|⟨l,wr,h1,h2,rfl,h3,h4⟩
 ·have hr':[y].length * bytes≤2 ^ 47:=by simpa using hr
  refine ⟨.arr S.length 0 1 1,S++[.arr [y] sz 1],?_,.inr ⟨S.length,1,hlen,k.out ok (qt1 _),by simp,by simp,by simp⟩,k.push ok _,s.push _⟩;unfold appS;rw[qcd];have hc:true=true∧fits sz [y]=true∧(([]:List V).all fun v=>v.size==sz)=true∧(([]:List V).length+[y].length) * bytes≤2 ^ 47:=⟨rfl,hy,rfl,hr⟩;show (if [y].isEmpty=true then _ else _)=_;rw[if_neg (by simp),if_pos hc];simp
 ·have hc:0=0∧xs.length=xs.length∧xs.length=xs.length∧sz=sz∧fits sz [y]=true∧(xs.length+[y].length) * bytes≤2 ^ 47:=⟨rfl,rfl,rfl,rfl,hy,hr⟩;have hlt:l<S.length:=(qtV.1 h3).1;refine ⟨.arr l 0 (xs.length+1) (xs.length+1),S.set l (.arr (xs++[y]) sz wr),?_,.inr ⟨l,wr,h1,h2,by simp,by rw[qtZ hlt],by simp;omega⟩,k.set ok _ h2.1 h2.2.1 h2.2.2,s.set _ h1⟩;unfold appS;rw[qcd];show (match S[l]? with|_=>_)=_;rw[h3];show (if _ then _ else _)=_;rw[if_pos hc];rfl
theorem Gw.fin{c:Cb}(ok:c.Ok){sz w n:Nat}{hh:c.H}{F0 D0 F D:Nat→Prop}{xs:List V}{v:V}{S0 U:St}(h:Gw sz S0.length w F D xs v U)(k:Wk c w n hh F D U)(s:Stp w F0 D0 S0 F D U):
  ∃U',qaX S0.length v U (.sl false (xs.map V.weak)) U'∧Wk c w n hh F D U'∧Stp w F0 D0 S0 F D U':=by
 rcases h with ⟨rfl,rfl⟩|⟨l,wr,h1,h2,rfl,h3,h4⟩
 ·exact ⟨U,qaX.weak (r:=.sl true []),k,s⟩
 ·have g1:=qaX.freeze (n:=S0.length) (l:=l) (off:=0) (len:=xs.length) (st:=xs.length) h3 h4 (by omega);simp only[List.drop_zero,qun] at g1;have g2:qaX S0.length (.sl false xs) (U.set l .dead) (V.sl false xs).weak (U.set l .dead):=qaX.weak;simp only[V.weak,qaI] at g2;exact ⟨_,g1.trans g2,k.set ok _ h2.1 h2.2.1 h2.2.2,s.set _ h1⟩
def Wd(c:Cb)(w n:Nat)(h':c.H)(F D:Nat→Prop)(S:St)(x:V)(r:V)(U:St):Prop:=r=x∧∃F' D',Wk c w n h' F' D' U∧Stp w F D S F' D' U
theorem qeG{c:Cb}(ok:c.Ok){sz w n:Nat}{hh:c.H}{F0 D0 F D:Nat→Prop}{xs:List V}{v:V}{S0 U:St}{rs:List RV}{e:Env}(hv:rvs e U rs=some [v])(h:Gw sz S0.length w F D xs v U)(k:Wk c w n hh F D U)(s:Stp w F0 D0 S0 F D U){ys:List V}(hx:xs.map V.weak=ys):
  endp rs S0.length (fun r U=>Wd c w n hh F0 D0 S0 (.sl false ys) r U) .ret e U:=by
 obtain ⟨U',g,k',s'⟩:=h.fin ok k s;exact ⟨_,hv,_,U',g,by rw[hx],F,D,k',s'⟩
def Ww(c:Cb)(sz w n:Nat)(hh:c.H)(F D:Nat→Prop)(S:St)(reg:Nat)(xs:List V)(e:Env)(U:St):Prop:=∃(gv:V) (F' D':Nat→Prop),e.get reg=some gv∧Gw sz S.length w F' D' xs gv U∧Wk c w n hh F' D' U∧Stp w F D S F' D' U
def Lw(c:Cb)(sz w:Nat)(F D:Nat→Prop)(S:St)(len:Nat)(n:Nat→Nat)(hh:Nat→c.H)(xs:Nat→List V)(env:Nat→V→Env)(j:Nat)(e:Env)(U:St):Prop:=∃(i:Nat) (gv:V) (F' D':Nat→Prop),j=len - i∧i≤len∧Gw sz S.length w F' D' (xs i) gv U∧Wk c w (n i) (hh i) F' D' U∧Stp w F D S F' D' U∧e=env i gv
theorem Ex.fits1(x:Ex):fits 7 [x.v]=true:=by simp[fits]
def P97(c:Cb)(w:Nat)(x:Ex):Prop:=∀(n:Nat) (h:c.H) (F D:Nat→Prop) (S:St) (v:V) (ts:List Sct) (tg:Bool),Wk c w n h F D S→ScR c.toPw (fun l=>l=w∨F l) S v ts→
 Spec prog 97 [.ptr w 0 0 1,x.v,v,.bool tg] S (fun r U=>Wd c w n (Ex.hs c.toPw (Scx ts) tg h x) F D S (x.wr c.toPw (Scx ts) tg).v r U)
theorem qgf(c:Cb)(ok:c.Ok)(w:Nat)(l:List Ex)(H:∀x,x∈l→P97 c w x)(hl:l.length≤4000)(n:Nat)(h:c.H)(F D:Nat→Prop)(S:St)(v:V)(ts:List Sct)(tg:Bool)(hk:Wk c w n h F D S)(hsc:ScR c.toPw (fun l=>l=w∨F l) S v ts):
  Spec prog 134 [.ptr w 0 0 1,.sl false (l.map Ex.v),v,.bool tg] S (fun r U=>Wd c w n (Ex.hsl c.toPw (Scx ts) tg h l) F D S (.sl false ((Ex.wrl c.toPw (Scx ts) tg l).map Ex.v)) r U):=by
 refine Spec.ib func134 ok134 ?_;simp[c134];refine qaz (Ww c 7 w n (Ex.hsl c.toPw (Scx ts) tg h l) F D S 9 ((Ex.wrl c.toPw (Scx ts) tg l).map Ex.v)) ?_ ?_
 ·refine qar (Lw c 7 w F D S l.length (fun _=>n) (fun i=>Ex.hsl c.toPw (Scx ts) tg h (l.take i)) (fun i=>(Ex.wrl c.toPw (Scx ts) tg (l.take i)).map Ex.v)
   (fun i gv=>[(14,.int .i64 i),(13,.int .i64 l.length),(12,.sl false (l.map Ex.v)),(9,gv),(0,.ptr w 0 0 1),(2,v),(3,.bool tg)])) l.length _ ?_ ⟨0,_,F,D,by simp,by omega,Gw.nil _ _ _ _ _ _,hk,Stp.refl _ _ _ _,rfl⟩ ?_
  ·exact Env.so (by simp)
  rintro j e U ⟨i,gv,F1,D1,rfl,hi,hg,hk1,hs1,rfl⟩;by_cases hlt:i<l.length
  ·simp[hlt,iaEx,boxS,stS,qac,ldS];refine qan (H l[i] (qt7 hlt) n _ F1 D1 _ v ts tg (hk1.push ok _) ((hsc.step hs1).push _)) ?_;rintro r U2 ⟨rfl,F2,D2,hk2,hs2⟩;have hg2:=(hg.push [Ob.arr [l[i].v] 7 1]).step hs2;have hs3:=hs1.trans hs2.ofPush;obtain ⟨v',U3,ha,hg3,hk3,hs4⟩:=hg2.app1 ok (bytes:=80) (b:=true) hk2 hs3 (Ex.fits1 (l[i].wr c.toPw (Scx ts) tg)) (by rw[qt2,Ex.wrl_map,qt2,quW];omega)
   have hn:(Ex.wrl c.toPw (Scx ts) tg (l.take i)).map Ex.v++[(l[i].wr c.toPw (Scx ts) tg).v]=(Ex.wrl c.toPw (Scx ts) tg (l.take (i+1))).map Ex.v:=by
    rw[Ex.wrl_map,Ex.wrl_map,qt9,qtX hlt,quB,quh,quh];rfl
   have hn2:Ex.hs c.toPw (Scx ts) tg (Ex.hsl c.toPw (Scx ts) tg h (l.take i)) l[i]=Ex.hsl c.toPw (Scx ts) tg h (l.take (i+1)):=by
    rw[qt9,qtX hlt,quB,Ex.hsl_append];rfl
   rw[hn] at hg3;rw[hn2] at hk3;simp[Ex.fits1,ha,qaL (n:=(i:Int)+1)];refine ⟨_,?_,_,?_,i+1,v',F2,D2,rfl,by omega,hg3,hk3,hs4,rfl⟩
   ·omega
   ·exact Env.so (by simp)
  ·have:i=l.length:=by omega
   subst this;simp only[qun] at hg hk1;simp;exact ⟨gv,F1,D1,rfl,hg,hk1,hs1⟩
 rintro e U ⟨gv,F1,D1,g9,hg,hk1,hs1⟩;simp[g9];exact qeG ok rfl hg hk1 hs1 (by rw[←qaI,wEx])
theorem Ex.hs_eq(p:Pw)(sc:Scs)(tg:Bool)(h:p.H)(x:Ex):x.hs p sc tg h=p.nmS sc tg (Ex.hsl p sc false h x.args) (.mk x.kind x.op x.n x.man x.exp x.text (Ex.wrl p sc false x.args)):=by cases x;simp only[Ex.hs,Ex.kind,Ex.op,Ex.n,Ex.man,Ex.exp,Ex.text,Ex.args]
theorem Ex.wr_eq(p:Pw)(sc:Scs)(tg:Bool)(x:Ex):x.wr p sc tg=p.nmE sc tg (.mk x.kind x.op x.n x.man x.exp x.text (Ex.wrl p sc false x.args)):=by cases x;simp only[Ex.wr,Ex.kind,Ex.op,Ex.n,Ex.man,Ex.exp,Ex.text,Ex.args]
theorem exV(x:Ex)(l:List Ex):V.agg [.int .i64 x.kind,.int .i64 x.op,.int .i64 x.n,.int .i64 x.man,.int .i64 x.exp,.str x.text,.sl false (l.map Ex.v)]=(Ex.mk x.kind x.op x.n x.man x.exp x.text l).v:=by rw[Ex.v_eq];rfl
theorem Wk.call0{c:Cb}(ok:c.Ok){w n:Nat}{h h':c.H}{F D F' D':Nat→Prop}{S U:St}(k:Wk c w n h F D S)(hI:c.I h' F' D' U)(hk:Kp F S U)(gF:grow S F F')(gD:grow S D D'):(U[w]?=some (wkr c n)∧¬ F' w∧¬ D' w)∧Stp w F D S F' D' U:=by
 have hlt:=(qtV.1 k.tw).1;exact ⟨⟨hk.at k.tw k.nF,fun hf=>(gF w hf).elim k.nF (by omega),fun hf=>(gD w hf).elim k.nD (by omega)⟩,hk.mono fun _ _ h=>.inr h,gF,gD⟩
theorem Wk.call{c:Cb}(ok:c.Ok){w n:Nat}{h h':c.H}{F D F' D':Nat→Prop}{S U:St}(k:Wk c w n h F D S)(hc:c.cn h' n)(hI:c.I h' F' D' U)(hk:Kp F S U)(gF:grow S F F')(gD:grow S D D'):Wk c w n h' F' D' U∧Stp w F D S F' D' U:=
 have ⟨⟨a,b,d⟩,s⟩:=k.call0 ok hI hk gF gD
 ⟨⟨a,hI,b,d,hc⟩,s⟩
theorem qo2(c:Cb)(ok:c.Ok)(w:Nat):∀(m:Nat) (x:Ex),(Pa.ex x).size≤m→m≤4000→P97 c w x
 | 0,x,hx,_=>by have:=(Pa.ex x).size_pos;omega
 | m+1,x,hx,hm=>by
  intro n h F D S v ts tg hk hsc;have hsz:(Pa.ex x).size=1+qaB (x.args.map Pa.ex):=by rw[Pa.size_eq];rfl
  have hl:x.args.length≤4000:=by have:=qaP (x.args.map Pa.ex);rw[qt2] at this;omega
  have IH:∀y,y∈x.args→P97 c w y:=fun y hy=>qo2 c ok w m y (by
   obtain ⟨i,hi⟩:=qux (quz (f:=Pa.ex) hy);have:=qaW hi;omega) (by omega)
  refine Spec.ib func97 ok97 ?_;obtain ⟨S1,hS1⟩:∃S1:St,S1=S++[.arr [x.v] 7 1,.arr [.agg [.int .i64 0,.int .i64 0,.int .i64 0,.int .i64 0,.int .i64 0,.str ⟨⟨[]⟩⟩,.sl true []]] 7 1]:=⟨_,rfl⟩;have b0:S1[S.length]?=some (.arr [x.v] 7 1):=by rw[hS1,qtW (by omega)];simp
  have b1:S1[S.length+1]?=some (.arr [.agg [.int .i64 0,.int .i64 0,.int .i64 0,.int .i64 0,.int .i64 0,.str ⟨⟨[]⟩⟩,.sl true []]] 7 1):=by rw[hS1,qtW (by omega)];simp
  have l1:S1.length=S.length+2:=by rw[hS1];simp
  have k1:Wk c w n h F D S1:=by rw[hS1];exact hk.push ok _
  have s1:Stp w F D S F D S1:=by rw[hS1];exact (Stp.refl _ _ _ _).push _
  have o0:Off w F D S.length:=hk.out ok (qt1 _);have o1:Off w F D (S.length+1):=hk.out ok (by omega);simp[c97,boxS,ldS,qac];rw[←hS1];refine qan (qgf c ok w x.args IH hl n h F D S1 v ts false k1 (hsc.step s1)) ?_;rintro r U ⟨rfl,F1,D1,k2,s2⟩;have c0:=s2.at o0 b0;have c1:=s2.at o1 b1;have p0:=o0.next (by omega) s2;have p1:=o1.next (by omega) s2;have s2':=s1.trans s2;generalize hl':Ex.wrl c.toPw (Scx ts) false x.args=l' at *;generalize hh':Ex.hsl c.toPw (Scx ts) false h x.args=h' at *;have hu:=s2.k.len;obtain ⟨y,hy⟩:∃y:Ex,y=.mk x.kind x.op x.n x.man x.exp x.text l':=⟨_,rfl⟩;have yk:y.kind=x.kind:=by rw[hy];rfl
  have yt:y.text=x.text:=by rw[hy];rfl
  have hst:Ob.arr [V.agg [.int .i64 x.kind,.int .i64 x.op,.int .i64 x.n,.int .i64 x.man,.int .i64 x.exp,.str x.text,.sl false (l'.map Ex.v)]] 7 1=.arr [y.v] 7 1:=by rw[exV,←hy]
  obtain ⟨U2,hU2⟩:∃U2:St,U2=U.set S.length (.arr [y.v] 7 1):=⟨_,rfl⟩;have d0:U2[S.length]?=some (.arr [y.v] 7 1):=by rw[hU2,qtZ (by omega)]
  have d1:U2[S.length+1]?=some (.arr [.agg [.int .i64 0,.int .i64 0,.int .i64 0,.int .i64 0,.int .i64 0,.str ⟨⟨[]⟩⟩,.sl true []]] 7 1):=by rw[hU2,qtY (by omega)];exact c1
  have k3:Wk c w n h' F1 D1 U2:=by rw[hU2];exact k2.set ok _ p0.1 p0.2.1 p0.2.2
  have s3:Stp w F D S F1 D1 U2:=by rw[hU2];exact s2'.set _ (qt1 _)
  have l2:U2.length=U.length:=by rw[hU2];simp
  simp[stS,ldS,c0,qf7,qac];rw[hst,←hU2];rw[Ex.wr_eq,Ex.hs_eq,hl',hh',←hy];have fin:∀(h2:c.H) (F2 D2:Nat→Prop) (U3:St) (z:Ex),U3[S.length+1]?=some (.arr [z.v] 7 1)→Wk c w n h2 F2 D2 U3→Stp w F D S F2 D2 U3→∀e:Env,e.get 8=some (.ptr (S.length+1) 0 0 1)→endp [.cell 8 (some 7)] S.length (fun r U=>Wd c w n h2 F D S z.v r U) .ret e U3:=
   fun h2 F2 D2 U3 z hz hk3 hs3 e he=>qaj (vs:=[z.v]) (by simp[rvs,he,ldS,hz]) ⟨rfl,F2,D2,hk3,hs3⟩
  have fin2:∀(h2:c.H) (F2 D2:Nat→Prop) (U3:St) (z:Ex) (o:Ob),U3[S.length+1]?=some o→Off w F2 D2 (S.length+1)→Wk c w n h2 F2 D2 U3→Stp w F D S F2 D2 U3→∀e:Env,e.get 8=some (.ptr (S.length+1) 0 0 1)→endp [.cell 8 (some 7)] S.length (fun r U=>Wd c w n h2 F D S z.v r U) .ret e (U3.set (S.length+1) (.arr [z.v] 7 1)):=
   fun h2 F2 D2 U3 z o hz po hk3 hs3 e he=>fin h2 F2 D2 _ z (qtZ (qtV.1 hz).1) (hk3.set ok _ po.1 po.2.1 po.2.2) (hs3.set _ (by omega)) e he
  by_cases hn:Ex.named x.kind=true
  case neg=>
   have e6:x.kind≠6:=fun hh=>hn (by rw[hh];rfl)
   have e7:x.kind≠7:=fun hh=>hn (by rw[hh];rfl)
   have e8:x.kind≠8:=fun hh=>hn (by rw[hh];rfl)
   simp[ldS,d0,yk,e6,e7,e8,stS,d1,qac];have e1:c.toPw.nmE (Scx ts) tg y=y:=by unfold Pw.nmE;rw[yk,if_neg hn]
   have e2:c.toPw.nmS (Scx ts) tg h' y=h':=by unfold Pw.nmS;rw[yk,if_neg hn]
   rw[e1,e2];exact fin2 _ F1 D1 _ _ _ d1 p1 k3 s3 _ rfl
  have hk3:x.kind=6∨x.kind=7∨x.kind=8:=by
   unfold Ex.named at hn;simpa[or_assoc] using hn
  have tw:=k3.tw;unfold wkr at tw
  cases hnm:c.nm with
  | none=>
   have hfn:c.fn=.nilfn:=by have:=ok.nm;rw[hnm] at this;exact this
   rw[hfn] at tw;have hsc3:=hsc.step s3;have hfind:=qfK hsc3 x.text;have e2:c.toPw.nmS (Scx ts) tg h' y=h':=by unfold Pw.nmS;rw[hnm];simp
   have e1:c.toPw.nmE (Scx ts) tg y=.mk y.kind y.op y.n y.man y.exp (retp c.toPw (Scx ts) y.text) y.args:=by unfold Pw.nmE;rw[yk,if_pos hn,hnm]
   rw[e1,e2,yt];have hat:=qeM ts x.text
   cases hf:fnd ts x.text with
   | none=>
    have hr:retp c.toPw (Scx ts) x.text=x.text:=by unfold retp;rw[hat,hf];rfl
    have hv:fndV ts x.text=.nilp:=by simp[fndV,hf]
    rw[hv] at hfind;have hy':Ex.mk y.kind y.op y.n y.man y.exp x.text y.args=y:=by rw[hy];rfl
    rw[hr,hy'];rcases hk3 with e|e| e
    all_goals
     simp[ldS,d0,yk,yt,e,qbb,tw,eqOk,eqV]
     refine qai hfind ?_
     simp[ldS,d0,eqOk,eqV,stS,d1,qac]
     exact fin2 _ F1 D1 _ _ _ d1 p1 k3 s3 _ rfl
   | some q=>
    have hr:retp c.toPw (Scx ts) x.text=c.f q.1 x.text:=by unfold retp;rw[hat,hf];rfl
    have hv:fndV ts x.text=.ptr q.2 0 0 1:=by simp[fndV,hf]
    rw[hv] at hfind;have hq:=hsc3.fnd_get hf;unfold plc at hq;obtain ⟨z,hz⟩:∃z:Ex,z=.mk y.kind y.op y.n y.man y.exp (c.f q.1 x.text) y.args:=⟨_,rfl⟩;have hzv:Ob.arr [V.agg [.int .i64 y.kind,.int .i64 y.op,.int .i64 y.n,.int .i64 y.man,.int .i64 y.exp,.str (c.f q.1 x.text),.sl false (y.args.map Ex.v)]] 7 1=.arr [z.v] 7 1:=by rw[hz,Ex.v_eq];rfl
    rw[hr,←hz];have hlt0:S.length<U2.length:=glt d0;rcases hk3 with e|e| e
    all_goals
     simp[ldS,d0,yk,yt,e,qbb,tw,eqOk,eqV]
     refine qai hfind ?_
     simp[ldS,d0,eqOk,eqV,qbb,hq,stS,qf7,qac]
     rw[hzv]
     have f0:(U2.set S.length (.arr [z.v] 7 1))[S.length]?=some (.arr [z.v] 7 1):=qtZ hlt0
     have f1:(U2.set S.length (.arr [z.v] 7 1))[S.length+1]?=some (.arr [.agg [.int .i64 0,.int .i64 0,.int .i64 0,.int .i64 0,.int .i64 0,.str ⟨⟨[]⟩⟩,.sl true []]] 7 1):=by rw[qtY (by omega)];exact d1
     have k4:=k3.set ok (.arr [z.v] 7 1) p0.1 p0.2.1 p0.2.2
     have s4:=s3.set (.arr [z.v] 7 1) (qt1 _)
     generalize U2.set S.length (.arr [z.v] 7 1)=U4 at f0 f1 k4 s4 ⊢
     simp[ldS,f0,stS,f1,qac]
     exact fin2 _ F1 D1 _ _ _ f1 p1 k4 s4 _ rfl
  | some g=>
   have hcb:=ok.nm;rw[hnm] at hcb;obtain ⟨kf,cs,hfn,hsp⟩:=hcb;rw[hfn] at tw;have e2:c.toPw.nmS (Scx ts) tg h' y=c.nmH h' y (Scx ts) tg:=by unfold Pw.nmS;rw[yk,if_pos hn,hnm]
   have e1:c.toPw.nmE (Scx ts) tg y=g y (Scx ts) tg:=by unfold Pw.nmE;rw[yk,if_pos hn,hnm]
   rw[e1,e2];have hsp3:=hsp U2 y v ts tg w h' F1 D1 (hsc.step s3) k3.st;obtain ⟨Fi,Di,Ui,hi⟩:=ok.real k3.st (c.nmH h' y (Scx ts) tg);rcases hk3 with e|e| e
   all_goals
    simp[ldS,d0,yk,e,qbb,tw,eqOk,eqV]
    refine qcw hsp3 ⟨_,Ui,rfl,Fi,Di,hi⟩ ?_
    rintro r U3 ⟨rfl,F2,D2,q1,q2,q3,q4⟩
    obtain ⟨k4,s4⟩:=k3.call ok (ok.cm _ _ _ k3.cn) q1 q2 q3 q4
    have f1:=s4.at p1 d1
    have p1':=p1.next (by omega) s4
    simp[stS,f1,qac,dend,qbj]
    exact fin2 _ F2 D2 _ _ _ f1 p1' k4 (s3.trans s4) _ rfl
def rets(p:Pw)(sc:Scs)(l:List ByteArray):List ByteArray:=l.map (retp p sc)
def El.wrl(p:Pw)(sc:Scs)(l:List El):List El:=l.map (El.wr p sc)
theorem ql9(c:Cb)(ok:c.Ok)(w:Nat)(l:List ByteArray)(hl:l.length≤4000)(n:Nat)(h:c.H)(F D:Nat→Prop)(S:St)(v:V)(ts:List Sct)(hin:∀x,x∈l→((Scx ts).at x).isSome=true)(hk:Wk c w n h F D S)(hsc:ScR c.toPw (fun l=>l=w∨F l) S v ts):
  Spec prog 218 [.sl false (l.map .str),v] S (fun r U=>Wd c w n h F D S (.sl false ((rets c.toPw (Scx ts) l).map .str)) r U):=by
 refine Spec.ib func218 ok218 ?_;simp[c218];refine qaz (Ww c 1 w n h F D S 5 ((rets c.toPw (Scx ts) l).map .str)) ?_ ?_
 ·refine qar (Lw c 1 w F D S l.length (fun _=>n) (fun _=>h) (fun i=>(rets c.toPw (Scx ts) (l.take i)).map .str)
   (fun i gv=>[(10,.int .i64 i),(9,.int .i64 l.length),(8,.sl false (l.map .str)),(5,gv),(1,v)])) l.length _ ?_ ⟨0,_,F,D,by simp,by omega,Gw.nil _ _ _ _ _ _,hk,Stp.refl _ _ _ _,rfl⟩ ?_
  ·exact Env.so (by simp)
  rintro j e U ⟨i,gv,F1,D1,rfl,hi,hg,hk1,hs1,rfl⟩;by_cases hlt:i<l.length
  ·have hsc1:=hsc.step hs1;have hfind:=qfK hsc1 l[i];have hat:=qeM ts l[i]
   obtain ⟨q,hq⟩:∃q,fnd ts l[i]=some q:=by
    have:=hin l[i] (qt7 hlt);rw[hat] at this
    cases hf:fnd ts l[i] with
    | none=>rw[hf] at this;cases this
    | some q=>exact ⟨q,rfl⟩
   have hv:fndV ts l[i]=.ptr q.2 0 0 1:=by simp[fndV,hq]
   have hr:retp c.toPw (Scx ts) l[i]=c.f q.1 l[i]:=by unfold retp;rw[hat,hq];rfl
   rw[hv] at hfind;have hg1:=hsc1.fnd_get hq;unfold plc at hg1;simp[hlt,qc4];refine qai hfind ?_;obtain ⟨v',U3,ha,hg3,hk3,hs4⟩:=hg.app1 ok (bytes:=16) (b:=true) (y:=.str (c.f q.1 l[i])) hk1 hs1 (by rfl) (by simp only[rets,El.wrl,qt2,quW];omega)
   have hn:(rets c.toPw (Scx ts) (l.take i)).map V.str++[.str (c.f q.1 l[i])]=(rets c.toPw (Scx ts) (l.take (i+1))).map V.str:=by
    unfold rets;rw[qt9,qtX hlt,quB,quh,quh,←hr];rfl
   rw[hn] at hg3;have hfs:fits 1 [V.str (c.f q.1 l[i])]=true:=rfl;simp[qbb,ldS,hg1,hfs,ha,qaL (n:=(i:Int)+1)];refine ⟨_,?_,_,?_,i+1,v',F1,D1,rfl,by omega,hg3,hk3,hs4,rfl⟩
   ·omega
   ·exact Env.so (by simp)
  ·have:i=l.length:=by omega
   subst this;simp only[qun] at hg hk1;simp;exact ⟨gv,F1,D1,rfl,hg,hk1,hs1⟩
 rintro e U ⟨gv,F1,D1,g5,hg,hk1,hs1⟩;simp[g5];exact qeG ok rfl hg hk1 hs1 (by rw[←qaI,wStr])
theorem El.fits1(x:El):fits 2 [x.v]=true:=by simp[fits]
theorem El.hsl_append(p:Pw)(sc:Scs)(h:p.H)(l m:List El):El.hsl p sc h (l++m)=El.hsl p sc (El.hsl p sc h l) m:=by unfold El.hsl;rw[quL]
theorem qgx(c:Cb)(ok:c.Ok)(w:Nat)(l:List Ex)(hl:qaB (l.map Pa.ex)≤4000)(n:Nat)(h:c.H)(F D:Nat→Prop)(S:St)(v:V)(ts:List Sct)(tg:Bool)(hk:Wk c w n h F D S)(hsc:ScR c.toPw (fun l=>l=w∨F l) S v ts):
  Spec prog 134 [.ptr w 0 0 1,.sl false (l.map Ex.v),v,.bool tg] S (fun r U=>Wd c w n (Ex.hsl c.toPw (Scx ts) tg h l) F D S (.sl false ((Ex.wrl c.toPw (Scx ts) tg l).map Ex.v)) r U):=
 qgf c ok w l (fun x hx=>qo2 c ok w 4000 x (by
  obtain ⟨i,hi⟩:=qux (quz (f:=Pa.ex) hx);have:=qaW hi;omega) (by omega)) (by have:=qaP (l.map Pa.ex);rw[qt2] at this;omega) n h F D S v ts tg hk hsc
theorem Wd.some{c:Cb}(ok:c.Ok){w n n':Nat}{h:c.H}{F D:Nat→Prop}{S:St}(hk:Wk c w n h F D S)(h':c.H)(hc:c.cn h' n')(x:V):∃r U,Wd c w n' h' F D S x r U:=by
 obtain ⟨F',D',U,q1,q2,q3,q4⟩:=ok.real hk.st h';obtain ⟨⟨a,b,d⟩,s⟩:=hk.call0 ok q1 q2 q3 q4;have hlt:=(qtV.1 a).1;refine ⟨x,U.set w (wkr c n'),rfl,F',D',⟨qtZ hlt,ok.fr (M:=fun l=>l=w) q1 ((Kp.refl _ _).set _ (.inl rfl)) (fun l hl _=>by rw[hl];exact ⟨b,d⟩),b,d,hc⟩,s.k.set _ (.inl (.inl rfl)),s.gF,s.gD⟩
theorem qpS(c:Cb)(ok:c.Ok)(w:Nat)(l:List El)(hl:qaB (l.map Pa.el)≤4000)(n:Nat)(h:c.H)(F D:Nat→Prop)(S:St)(v:V)(ts:List Sct)(hk:Wk c w n h F D S)(hsc:ScR c.toPw (fun l=>l=w∨F l) S v ts):
  Spec prog 221 [.ptr w 0 0 1,.sl false (l.map El.v),v] S (fun r U=>Wd c w n (El.hsl c.toPw (Scx ts) h l) F D S (.sl false ((El.wrl c.toPw (Scx ts) l).map El.v)) r U):=by
 have hlen:l.length≤4000:=by have:=qaP (l.map Pa.el);rw[qt2] at this;omega
 refine Spec.ib func221 ok221 ?_;simp[c221];refine qaz (Ww c 2 w n (El.hsl c.toPw (Scx ts) h l) F D S 7 ((El.wrl c.toPw (Scx ts) l).map El.v)) ?_ ?_
 ·refine qar (Lw c 2 w F D S l.length (fun _=>n) (fun i=>El.hsl c.toPw (Scx ts) h (l.take i)) (fun i=>(El.wrl c.toPw (Scx ts) (l.take i)).map El.v)
   (fun i gv=>[(12,.int .i64 i),(11,.int .i64 l.length),(10,.sl false (l.map El.v)),(7,gv),(0,.ptr w 0 0 1),(2,v)])) l.length _ ?_ ⟨0,_,F,D,by simp,by omega,Gw.nil _ _ _ _ _ _,hk,Stp.refl _ _ _ _,rfl⟩ ?_
  ·exact Env.so (by simp)
  rintro j e U ⟨i,gv,F1,D1,rfl,hi,hg,hk1,hs1,rfl⟩;by_cases hlt:i<l.length
  ·have hse:qaB (l[i].exps.map Pa.ex)≤4000:=by
    have h1:=qaW (l:=l.map Pa.el) (i:=i) (q:=Pa.el l[i]) (by simp[hlt]);have h2:(Pa.el l[i]).size=1+qaB (l[i].exps.map Pa.ex):=by rw[Pa.size_eq];rfl
    omega
   obtain ⟨U1,hU1⟩:∃U1:St,U1=U++[.arr [l[i].v] 2 1]:=⟨_,rfl⟩;have hk2:Wk c w n (El.hsl c.toPw (Scx ts) h (l.take i)) F1 D1 U1:=by rw[hU1];exact hk1.push ok _
   have hs2:Stp w F D S F1 D1 U1:=by rw[hU1];exact hs1.push _
   have hg2:Gw 2 S.length w F1 D1 ((El.wrl c.toPw (Scx ts) (l.take i)).map El.v) gv U1:=by rw[hU1];exact hg.push _
   have b0:U1[U.length]?=some (.arr [l[i].v] 2 1):=by rw[hU1];simp
   have o0:Off w F1 D1 U.length:=hk1.out ok (qt1 _);have hlU:U1.length=U.length+1:=by rw[hU1];simp
   have hcall:=qgx c ok w l[i].exps hse n _ F1 D1 U1 v ts false hk2 (hsc.step hs2);simp[hlt,iaEl,boxS,stS,qac,ldS];rw[←hU1];refine qcw hcall (Wd.some ok hk2 _ (qti ok _ _ _ hk2.cn) _) ?_;rintro r U2 ⟨rfl,F2,D2,hk3,hs3⟩;have b1:=hs3.at o0 b0;have hg3:=hg2.step hs3;have hs4:=hs2.trans hs3;obtain ⟨v',U3,ha,hg4,hk4,hs5⟩:=hg3.app1 ok (bytes:=32) (b:=true) hk3 hs4 (El.fits1 (l[i].wr c.toPw (Scx ts))) (by simp only[rets,El.wrl,qt2,quW];omega)
   have hn:(El.wrl c.toPw (Scx ts) (l.take i)).map El.v++[(l[i].wr c.toPw (Scx ts)).v]=(El.wrl c.toPw (Scx ts) (l.take (i+1))).map El.v:=by
    unfold El.wrl;rw[qt9,qtX hlt,quB,quh,quh];rfl
   have hn2:Ex.hsl c.toPw (Scx ts) false (El.hsl c.toPw (Scx ts) h (l.take i)) l[i].exps=El.hsl c.toPw (Scx ts) h (l.take (i+1)):=by
    rw[qt9,qtX hlt,quB,El.hsl_append];rfl
   rw[hn] at hg4;rw[hn2] at hk4;have hb:qal (.agg [.int .i64 0,.sl true []]) [(0,1,.int .i64 l[i].kind),(1,1,.sl false ((Ex.wrl c.toPw (Scx ts) false l[i].exps).map Ex.v))]=some (l[i].wr c.toPw (Scx ts)).v:=by simp[qal,qac];rfl
   simp[qaf,hb,El.fits1,ha,dend,qbj,qbw,ldS,b0,b1,qaL (n:=(i:Int)+1)];refine ⟨_,?_,_,?_,i+1,v',F2,D2,rfl,by omega,hg4,hk4,hs5,rfl⟩
   ·omega
   ·exact Env.so (by simp)
  ·have:i=l.length:=by omega
   subst this;simp only[qun] at hg hk1;simp;exact ⟨gv,F1,D1,rfl,hg,hk1,hs1⟩
 rintro e U ⟨gv,F1,D1,g5,hg,hk1,hs1⟩;simp[g5];exact qeG ok rfl hg hk1 hs1 (by rw[←qaI,wEl])
theorem qmZ(s:Sco)(e:ByteArray×Nat)(y:ByteArray)(h:(s.at y).isSome=true):(Sco.at (s++[e]) y).isSome=true:=by
 unfold Sco.at at *;rw[qvo]
 cases hf:s.find? fun p=>decide (p.1=y) with
 | none=>rw[hf] at h;simp at h
 | some p=>simp
theorem qq8(s:Sco)(x:ByteArray)(n:Nat):(Sco.at (s++[(x,n)]) x).isSome=true:=by
 unfold Sco.at;rw[qvo]
 cases hf:s.find? fun p=>decide (p.1=x) with
 | none=>simp
 | some p=>simp
theorem qdB(y:ByteArray):∀(l:List ByteArray) (s:Sco) (n:Nat),(s.at y).isSome=true→((binds l s n).at y).isSome=true
 | [],_,_,h=>h
 | x::l,s,n,h=>by
  simp only[binds];split
  ·exact qdB y l s n h
  ·exact qdB y l _ _ (qmZ s _ y h)
theorem qgI(y:ByteArray):∀(l:List ByteArray) (s:Sco) (n:Nat),y∈l→((binds l s n).at y).isSome=true
 | x::l,s,n,h=>by
  simp only[binds];rcases qum.1 h with rfl| h
  ·split
   ·rename_i hs;exact qdB y l s n hs
   ·exact qdB y l _ _ (qq8 s y n)
  ·split
   ·exact qgI y l s n h
   ·exact qgI y l _ _ h
def inSc(sc:Scs)(l:List ByteArray):Prop:=∀x,x∈l→(sc.at x).isSome=true
theorem qdg(l:List ByteArray)(n:Nat)(sc:Scs):inSc (qad l n::sc) l:=fun x hx=>by
 have:=qgI x l [] n hx;unfold Scs.at;unfold qad
 cases h:Sco.at (binds l [] n) x with
 | none=>rw[h] at this;cases this
 | some k=>rfl
theorem inSc.sub{sc:Scs}{l m:List ByteArray}(h:inSc sc l)(hm:∀x,x∈m→x∈l):inSc sc m:=fun x hx=>h x (hm x hx)
theorem qj2{l:List Sm}{s:Sm}(hs:s∈l):∀x,x∈s.labels→x∈qak l:=fun x hx=>List.mem_flatMap.2 ⟨s,hs,hx⟩
theorem Sm.fits1(x:Sm):fits 8 [x.v]=true:=by simp[fits]
theorem De.fits1(x:De):fits 7 [x.v]=true:=by simp[fits]
def P186(c:Cb)(w:Nat)(s:Sm):Prop:=∀(n:Nat) (h:c.H) (F D:Nat→Prop) (S:St) (v:V) (ts:List Sct),Wk c w n h F D S→ScR c.toPw (fun l=>l=w∨F l) S v ts→inSc (Scx ts) s.labels→n+s.nb≤c.lim→
 Spec prog 186 [.ptr w 0 0 1,s.v,v] S (fun r U=>Wd c w (n+s.nb) (s.hs c.toPw (Scx ts) n h) F D S (s.wr c.toPw (Scx ts) n).v r U)
theorem ScR.weak{p:Pw}{X:Nat→Prop}{S:St}{v:V}{ts:List Sct}(h:ScR p X S v ts):v.weak=v:=by
 cases ts with
 | nil=>have h':v=.nilp:=h;rw[h'];rfl
 | cons t r=>obtain ⟨l,_,_,_,_,_,rfl,_⟩:=h;rfl
theorem wrl_len(p:Pw)(sc:Scs):∀(m:List Sm) (n:Nat),(Sm.wrl p sc n m).length=m.length
 | [],_=>rfl
 | x::m,n=>by simp only[Sm.wrl,quy,wrl_len p sc m]
theorem qeF(c:Cb)(ok:c.Ok)(w:Nat)(l:List Sm)(b:Bool)(H:∀s,s∈l→P186 c w s)(hl:l.length≤4000)(n:Nat)(h:c.H)(F D:Nat→Prop)(S:St)(v:V)(ts:List Sct)(hk:Wk c w n h F D S)(hsc:ScR c.toPw (fun l=>l=w∨F l) S v ts)
  (hin:inSc (Scx ts) (qak l)) (hn:n+Sm.nbl l≤c.lim):
  Spec prog 156 [.ptr w 0 0 1,.sl b (l.map Sm.v),v] S (fun r U=>Wd c w (n+Sm.nbl l) (Sm.hsl c.toPw (Scx ts) n h l) F D S (.sl false ((Sm.wrl c.toPw (Scx ts) n l).map Sm.v)) r U):=by
 refine Spec.weakA ?_;simp only[V.weakL,V.weak,wSm,hsc.weak];refine Spec.ib func156 ok156 ?_;simp[c156];refine qaz (Ww c 8 w (n+Sm.nbl l) (Sm.hsl c.toPw (Scx ts) n h l) F D S 7 ((Sm.wrl c.toPw (Scx ts) n l).map Sm.v)) ?_ ?_
 ·refine qar (Lw c 8 w F D S l.length (fun i=>n+Sm.nbl (l.take i)) (fun i=>Sm.hsl c.toPw (Scx ts) n h (l.take i)) (fun i=>(Sm.wrl c.toPw (Scx ts) n (l.take i)).map Sm.v)
   (fun i gv=>[(12,.int .i64 i),(11,.int .i64 l.length),(10,.sl false (l.map Sm.v)),(7,gv),(0,.ptr w 0 0 1),(2,v)])) l.length _ ?_ ⟨0,_,F,D,by simp,by omega,Gw.nil _ _ _ _ _ _,hk,Stp.refl _ _ _ _,rfl⟩ ?_
  ·exact Env.so (by simp)
  rintro j e U ⟨i,gv,F1,D1,rfl,hi,hg,hk1,hs1,rfl⟩;dsimp only at hg hk1;by_cases hlt:i<l.length
  ·have ht:l.take (i+1)=l.take i++[l[i]]:=by rw[qt9,qtX hlt];rfl
   have hnb:Sm.nbl (l.take (i+1))=Sm.nbl (l.take i)+l[i].nb:=by rw[ht,Sm.nbl_append];simp[Sm.nbl]
   have hnl:Sm.nbl (l.take (i+1))≤Sm.nbl l:=by
    have:Sm.nbl l=Sm.nbl (l.take (i+1))+Sm.nbl (l.drop (i+1)):=by rw[←Sm.nbl_append,quF]
    omega
   simp[hlt,iaSm,boxS,stS,qac,ldS];refine qan (H l[i] (qt7 hlt) _ _ F1 D1 _ v ts (hk1.push ok _) ((hsc.step hs1).push _) (hin.sub (qj2 (qt7 hlt))) (by omega)) ?_;rintro r U2 ⟨rfl,F2,D2,hk2,hs2⟩;have hg2:=(hg.push [Ob.arr [l[i].v] 8 1]).step hs2;have hs3:=hs1.trans hs2.ofPush
   obtain ⟨v',U3,ha,hg3,hk3,hs4⟩:=hg2.app1 ok (bytes:=168) (b:=true) hk2 hs3 (Sm.fits1 (l[i].wr c.toPw (Scx ts) (n+Sm.nbl (l.take i)))) (by
    rw[qt2,wrl_len,quW];omega)
   have hn1:(Sm.wrl c.toPw (Scx ts) n (l.take i)).map Sm.v++[(l[i].wr c.toPw (Scx ts) (n+Sm.nbl (l.take i))).v]=(Sm.wrl c.toPw (Scx ts) n (l.take (i+1))).map Sm.v:=by
    rw[ht,Sm.wrl_append,quh];rfl
   have hn2:Sm.hs c.toPw (Scx ts) (n+Sm.nbl (l.take i)) (Sm.hsl c.toPw (Scx ts) n h (l.take i)) l[i]=Sm.hsl c.toPw (Scx ts) n h (l.take (i+1)):=by
    rw[ht,Sm.hsl_append];rfl
   rw[hn1] at hg3;rw[hn2,quN,←hnb] at hk3;simp[Sm.fits1,ha,qaL (n:=(i:Int)+1)];refine ⟨_,?_,_,?_,i+1,v',F2,D2,rfl,by omega,hg3,hk3,hs4,rfl⟩
   ·omega
   ·exact Env.so (by simp)
  ·have:i=l.length:=by omega
   subst this;simp only[qun] at hg hk1;simp;exact ⟨gv,F1,D1,rfl,hg,hk1,hs1⟩
 rintro e U ⟨gv,F1,D1,g9,hg,hk1,hs1⟩;simp[g9];exact qeG ok rfl hg hk1 hs1 (by rw[←qaI,wSm])
theorem Sco.len_of{t:Sct}{s:Sco}(h:t.sco=s):t.length=s.length:=by rw[←h];exact (qt2 _).symm
theorem wr1_len(p:Pw)(sc:Scs):∀(m:List Sm) (n:Nat),(Sm.wr1 p sc n m).length=m.length
 | [],_=>rfl
 | x::m,n=>by simp only[Sm.wr1,quy,wr1_len p sc m]
theorem Sm.wr1_append(p:Pw)(sc:Scs):∀(l m:List Sm) (n:Nat),Sm.wr1 p sc n (l++m)=Sm.wr1 p sc n l++Sm.wr1 p sc (n+Sm.nb1 l) m
 | [],m,n=>by simp[Sm.wr1,Sm.nb1]
 | x::l,m,n=>by
  have:=qa3 x.labels n 0;simp only[qt8,Sm.wr1,Sm.nb1,Sm.wr1_append p sc l m,this,quN]
theorem Sm.hs1_append(p:Pw)(sc:Scs):∀(l m:List Sm) (n:Nat) (h:p.H),Sm.hs1 p sc n h (l++m)=Sm.hs1 p sc (n+Sm.nb1 l) (Sm.hs1 p sc n h l) m
 | [],m,n,h=>by simp[Sm.hs1,Sm.nb1]
 | x::l,m,n,h=>by
  have:=qa3 x.labels n 0;simp only[qt8,Sm.hs1,Sm.nb1,Sm.hs1_append p sc l m,this,quN]
theorem qet(c:Cb)(ok:c.Ok)(w:Nat)(l:List Sm)(b:Bool)(H:∀s,s∈l→P186 c w s)(hl:l.length≤4000)(hls:∀s,s∈l→s.ok)(n:Nat)(h:c.H)(F D:Nat→Prop)(S:St)(v:V)(ts:List Sct)(hk:Wk c w n h F D S)(hsc:ScR c.toPw (fun l=>l=w∨F l) S v ts)
  (hn:n+Sm.nb1 l≤c.lim):
  Spec prog 111 [.ptr w 0 0 1,.sl b (l.map Sm.v),v] S (fun r U=>Wd c w (n+Sm.nb1 l) (Sm.hs1 c.toPw (Scx ts) n h l) F D S (.sl false ((Sm.wr1 c.toPw (Scx ts) n l).map Sm.v)) r U):=by
 refine Spec.weakA ?_;simp only[V.weakL,V.weak,wSm,hsc.weak];refine Spec.ib func111 ok111 ?_;simp[c111];refine qaz (Ww c 8 w (n+Sm.nb1 l) (Sm.hs1 c.toPw (Scx ts) n h l) F D S 7 ((Sm.wr1 c.toPw (Scx ts) n l).map Sm.v)) ?_ ?_
 ·refine qar (Lw c 8 w F D S l.length (fun i=>n+Sm.nb1 (l.take i)) (fun i=>Sm.hs1 c.toPw (Scx ts) n h (l.take i)) (fun i=>(Sm.wr1 c.toPw (Scx ts) n (l.take i)).map Sm.v)
   (fun i gv=>[(13,.int .i64 i),(12,.int .i64 l.length),(11,.sl false (l.map Sm.v)),(7,gv),(0,.ptr w 0 0 1),(2,v)])) l.length _ ?_ ⟨0,_,F,D,by simp,by omega,Gw.nil _ _ _ _ _ _,hk,Stp.refl _ _ _ _,rfl⟩ ?_
  ·exact Env.so (by simp)
  rintro j e U ⟨i,gv,F1,D1,rfl,hi,hg,hk1,hs1,rfl⟩;dsimp only at hg hk1;by_cases hlt:i<l.length
  ·have ht:l.take (i+1)=l.take i++[l[i]]:=by rw[qt9,qtX hlt];rfl
   have hnb:Sm.nb1 (l.take (i+1))=Sm.nb1 (l.take i)+((qad l[i].labels 0).length+l[i].nb):=by rw[ht,Sm.nb1_append];simp[Sm.nb1]
   have hnl:Sm.nb1 (l.take (i+1))≤Sm.nb1 l:=by
    have:Sm.nb1 l=Sm.nb1 (l.take (i+1))+Sm.nb1 (l.drop (i+1)):=by rw[←Sm.nb1_append,quF]
    omega
   have hbl:=qa3 l[i].labels (n+Sm.nb1 (l.take i)) 0;have hlab:qak [l[i]]=l[i].labels:=by simp[qak]
   have hoks:Sm.okL [l[i]]:=⟨hls _ (qt7 hlt),trivial⟩;have hy:=qfv [l[i]] (by unfold B50;simp) hoks (U.length+1);rw[hlab] at hy;simp[hlt,iaSm,boxS,stS,qac,ldS,Sm.fits1];obtain ⟨U1,hU1⟩:∃U1:St,U1=U++[.arr [l[i].v] 8 1]:=⟨_,rfl⟩;rw[←hU1];have lU1:U1.length=U.length+1:=by rw[hU1];simp
   have q1:=qh4 [l[i]] true U1;simp only[qud,qvB] at q1 hy;refine qan q1 ?_;rintro r U2 ⟨rfl,hU2⟩;have hk2:Wk c w (n+Sm.nb1 (l.take i)) (Sm.hs1 c.toPw (Scx ts) n h (l.take i)) F1 D1 U2:=by rw[hU2,hU1];exact (hk1.push ok _).push ok _
   have hs2:Stp w F D S F1 D1 U2:=by rw[hU2,hU1];exact (hs1.push _).push _
   have hg2:Gw 8 S.length w F1 D1 ((Sm.wr1 c.toPw (Scx ts) n (l.take i)).map Sm.v) gv U2:=by rw[hU2,hU1];exact (hg.push _).push _
   have hc2:U2[U.length+1]?=some (.arr [.sl false [l[i].v]] 1 1):=by rw[hU2,qtW (by omega)];simp[lU1]
   have lU2:U2.length=U.length+2:=by rw[hU2];simp[lU1]
   simp;rw[lU1];refine qan (qgt c ok w _ _ F1 D1 v ts l[i].labels 187 [.ptr (U.length+1) 0 0 1] (U.length+1) _ hy (by simp) U2 hk2 (fun _=>False) (fun _ h=>h.elim) ((hsc.step hs2).sub fun l hh=>hh.imp id fun a=>a.resolve_right id) hc2 (hk1.out ok (by omega)) (by omega)) ?_;rintro r U3 ⟨t,F2,D2,hts,hk3,hs3,hsc3⟩;have hsc3:=hsc3.sub (X':=fun l=>l=w∨F2 l) fun l hh=>hh.imp id .inl
   have htl:=Sco.len_of hts;have hscx:Scx (t::ts)=qad l[i].labels (n+Sm.nb1 (l.take i))::Scx ts:=by simp only[Scx,qud,hts]
   simp;have q2:=qeF c ok w [l[i]] true (fun s hs=>by simp at hs;subst hs;exact H _ (qt7 hlt)) (by simp) _ _ F2 D2 U3 r (t::ts) hk3 hsc3 (by rw[hscx,hlab];exact qdg _ _ _) (by simp only[Sm.nbl];omega);simp only[qud,qvB,hscx,Sm.nbl,Sm.hsl,Sm.wrl,Nat.add_zero] at q2;refine qan q2 ?_;rintro r U4 ⟨rfl,F3,D3,hk4,hs4⟩;have hs34:=hs3.trans hs4;have hg4:=hg2.step hs34;have hs5:=hs2.trans hs34
   obtain ⟨v',U5,ha,hg5,hk5,hs6⟩:=hg4.app1 ok (bytes:=168) (b:=false) hk4 hs5 (Sm.fits1 (l[i].wr c.toPw (qad l[i].labels (n+Sm.nb1 (l.take i))::Scx ts) (n+Sm.nb1 (l.take i)+t.length))) (by
    rw[qt2,wr1_len,quW];omega)
   have hn1:(Sm.wr1 c.toPw (Scx ts) n (l.take i)).map Sm.v++[(l[i].wr c.toPw (qad l[i].labels (n+Sm.nb1 (l.take i))::Scx ts) (n+Sm.nb1 (l.take i)+t.length)).v]=(Sm.wr1 c.toPw (Scx ts) n (l.take (i+1))).map Sm.v:=by
    rw[ht,Sm.wr1_append,quh,htl];rfl
   have hn2:Sm.hs c.toPw (qad l[i].labels (n+Sm.nb1 (l.take i))::Scx ts) (n+Sm.nb1 (l.take i)+t.length) (enters c.toPw (Sm.hs1 c.toPw (Scx ts) n h (l.take i)) (qad l[i].labels (n+Sm.nb1 (l.take i)))) l[i]=Sm.hs1 c.toPw (Scx ts) n h (l.take (i+1)):=by
    rw[ht,Sm.hs1_append,htl];rfl
   rw[hn1] at hg5;rw[hn2,show n+Sm.nb1 (l.take i)+t.length+l[i].nb=n+Sm.nb1 (l.take (i+1)) by omega] at hk5;simp[ha,qaL (n:=(i:Int)+1)];refine ⟨_,?_,_,?_,i+1,v',F3,D3,rfl,by omega,hg5,hk5,hs6,rfl⟩
   ·omega
   ·exact Env.so (by simp)
  ·have:i=l.length:=by omega
   subst this;simp only[qun] at hg hk1;simp;exact ⟨gv,F1,D1,rfl,hg,hk1,hs1⟩
 rintro e U ⟨gv,F1,D1,g9,hg,hk1,hs1⟩;simp[g9];exact qeG ok rfl hg hk1 hs1 (by rw[←qaI,wSm])
def qs2(l:List Fo)(S:St)(r:V)(U:St):Prop:=(l=[]∧(∃b,r=.sl b [])∧U=S)∨(l≠[]∧r=.arr S.length 0 l.length l.length∧U=S++[.arr (l.map Fo.v) 4 l.length])
theorem qqE(l:List Fo):fits 4 (l.map Fo.v)=true:=by
 simp[fits]
theorem qrl(l:List Fo)(hl:l.length≤4000)(S:St):Spec prog 273 [.sl false (l.map Fo.v)] S (fun r U=>qs2 l S r U):=by
 refine Spec.ib func273 ok273 ?_
 cases l with
 | nil=>
  simp[c273,evX];refine .inl ⟨by simp[ndK,ndX,Opd.ev,Env.get],?_⟩;intro v hv;simp[ndK,ndX,Opd.ev,Env.get] at hv;rcases hv with rfl|rfl
  ·simp;exact qaj rfl (.inl ⟨rfl,⟨_,rfl⟩,rfl⟩)
  ·simp[fits,appS,elems];exact qaj rfl (.inl ⟨rfl,⟨_,rfl⟩,rfl⟩)
 | cons x l=>
  have hf:fits 4 (x.v::l.map Fo.v)=true:=qqE (x::l);have hf0:fits 4 []=true:=rfl
  have ha:appS S 4 40 (.sl true []) (.sl false (x.v::l.map Fo.v))=some (.arr S.length 0 (l.length+1) (l.length+1),S++[.arr (x.v::l.map Fo.v) 4 (l.length+1)]):=by
   simp only[quy] at hl;have hr':(([]:List V).length+(x.v::l.map Fo.v).length) * 40≤2 ^ 47:=by simp;omega
   have hc:true=true∧fits 4 (x.v::l.map Fo.v)=true∧(([]:List V).all fun v=>v.size==4)=true∧(([]:List V).length+(x.v::l.map Fo.v).length) * 40≤2 ^ 47:=⟨rfl,hf,rfl,hr'⟩;unfold appS;rw[qcd];show (if (x.v::l.map Fo.v).isEmpty=true then _ else _)=_;rw[if_neg (by simp),if_pos hc];simp
  simp[c273,evX,hf0,ha];exact qaj rfl (.inr ⟨by simp,rfl,rfl⟩)
mutual
theorem V.frz_id{l:Nat}{xs:List V}{wr:Nat}:∀v:V,v.under 0=true→v.frz l xs wr=v
 | .arr l' i o st,h=>by simp only[V.under,decide_eq_true_eq] at h;omega
 | .sl x ys,h=>by simp only[V.under] at h;simp only[V.frz,V.frzL_id ys h]
 | .iface t v,h=>by simp only[V.under] at h;simp only[V.frz,V.frz_id v h]
 | .agg cs,h=>by simp only[V.under] at h;simp only[V.frz,V.frzL_id cs h]
 | .tup cs,h=>by simp only[V.under] at h;simp only[V.frz,V.frzL_id cs h]
 | .top,_=>rfl
 | .bool _,_=>rfl
 | .int _ _,_=>rfl
 | .str _,_=>rfl
 | .nilp,_=>rfl
 | .glob _ _,_=>rfl
 | .nilmap,_=>rfl
 | .nilfn,_=>rfl
 | .niliface,_=>rfl
 | .ptr _ _ _ _,_=>rfl
 | .map _,_=>rfl
 | .yld _,_=>rfl
 | .iptr _ _,_=>rfl
 | .fn _ _ _,_=>rfl
theorem V.frzL_id{l:Nat}{xs:List V}{wr:Nat}:∀vs:List V,V.underL 0 vs=true→V.frzL l xs wr vs=vs
 | [],_=>rfl
 | v::vs,h=>by
  simp only[V.underL,qt3] at h;simp only[V.frzL,V.frz_id v h.1,V.frzL_id vs h.2]
end
def Fv(n0 w:Nat)(F D:Nat→Prop)(xs:List V)(rf:V)(S:St):Prop:=(xs=[]∧∃b,rf=.sl b [])∨∃l wr,n0≤l∧Off w F D l∧rf=.arr l 0 xs.length xs.length∧S[l]?=some (.arr xs 4 wr)∧wr≤xs.length
theorem Fv.step{n0 w:Nat}{F D F' D':Nat→Prop}{xs:List V}{v:V}{S U:St}(h:Fv n0 w F D xs v S)(s:Stp w F D S F' D' U):Fv n0 w F' D' xs v U:=by
 rcases h with h|⟨l,wr,h1,h2,h3,h4,h5⟩
 ·exact .inl h
 ·exact .inr ⟨l,wr,h1,h2.next (qtV.1 h4).1 s,h3,s.at h2 h4,h5⟩
def lenS:V→Option V
 | .sl _ xs=>some (.int .i64 xs.length)
 | .arr _ _ n _=>some (.int .i64 n)
 | _=>none
theorem Fv.len{n0 w:Nat}{F D:Nat→Prop}{xs:List V}{v:V}{S:St}(h:Fv n0 w F D xs v S):lenS v=some (.int .i64 xs.length):=by
 rcases h with ⟨rfl,b,rfl⟩|⟨l,wr,h1,h2,rfl,h4,h5⟩ <;> rfl
theorem Fv.flat{n0 w:Nat}{F D:Nat→Prop}{xs:List V}{v:V}{S:St}(h:Fv n0 w F D xs v S):v.cells=[v]∧v.flat=true∧v.size=1:=by
 rcases h with ⟨rfl,b,rfl⟩|⟨l,wr,h1,h2,rfl,h4,h5⟩ <;> exact ⟨rfl,rfl,rfl⟩
theorem Fv.fin{c:Cb}(ok:c.Ok){w n:Nat}{hh:c.H}{F0 D0 F D:Nat→Prop}{xs:List V}{rf:V}{S0 U:St}{n0:Nat}(h:Fv n0 w F D xs rf U)(hn0:S0.length≤n0)(k:Wk c w n hh F D U)(s:Stp w F0 D0 S0 F D U){a b:List V}(ha:V.underL 0 a=true)(hb:V.underL 0 b=true)(ha':V.weakL a=a)(hb':V.weakL b=b):
  ∃U',qaX S0.length (.agg (a++rf::b)) U (.agg (a++.sl false (V.weakL xs)::b)) U'∧Wk c w n hh F D U'∧Stp w F0 D0 S0 F D U':=by
 have wl:∀x y:List V,V.weakL (x++y)=V.weakL x++V.weakL y:=fun x y=>by rw[qaI,qaI,qaI,quh]
 rcases h with ⟨rfl,b',rfl⟩|⟨l,wr,h1,h2,rfl,h3,h4⟩
 ·have:=qaX.weak (n:=S0.length) (r:=.agg (a++.sl b' []::b)) (S:=U);simp only[V.weak,wl,V.weakL,ha',hb'] at this;exact ⟨U,this,k,s⟩
 ·have g1:=qaX.freezeV (n:=S0.length) (r:=.agg (a++.arr l 0 xs.length xs.length::b)) h3
  have hz:V.frz l xs wr (.agg (a++.arr l 0 xs.length xs.length::b))=.agg (a++.sl false xs::b):=by
   simp only[V.frz,qcj,quh,qud];rw[←qcj,←qcj,V.frzL_id _ ha,V.frzL_id _ hb,if_pos (by simp[h4])];simp
  rw[hz] at g1;have g2:=qaX.weak (n:=S0.length) (r:=.agg (a++.sl false xs::b)) (S:=U.set l .dead);simp only[V.weak,wl,V.weakL,ha',hb'] at g2;exact ⟨_,g1.trans g2,k.set ok _ h2.1 h2.2.1 h2.2.2,s.set _ (by omega)⟩
def rew(p:Pw)(sc:Scs)(l:List Fo):List Fo:=l.map (Fo.wr p sc)
def De.pr(p:Pw)(sc:Scs)(n:Nat)(d:De):De:=.mk d.kind d.own d.type d.names d.exps (rew p (qad (d.formals.map Fo.name) n::sc) d.formals) (Sm.wr1 p (qad (d.formals.map Fo.name) n::sc) (n+(qad (d.formals.map Fo.name) n).length) d.body)
def De.prH(p:Pw)(sc:Scs)(n:Nat)(h:p.H)(d:De):p.H:=Sm.hs1 p (qad (d.formals.map Fo.name) n::sc) (n+(qad (d.formals.map Fo.name) n).length) (enters p h (qad (d.formals.map Fo.name) n)) d.body
def De.prN(d:De):Nat:=(qad (d.formals.map Fo.name) 0).length+Sm.nb1 d.body
theorem qbm(e:Env)(S:St)(x:Opd):evK e S (.len false x)=(x.ev e).bind fun v=>(lenS v).map fun r=>(r,S):=by
 simp only[evK]
 cases x.ev e with
 | none=>rfl
 | some v=>cases v <;> rfl
def half(p:Pw)(sc:Scs)(l:List Fo)(i:Nat):List V:=(rew p sc (l.take i)++l.drop i).map Fo.v
theorem qg6(p:Pw)(sc:Scs)(l:List Fo)(i:Nat)(hi:i≤l.length):(half p sc l i).length=l.length:=by simp[half,rew];omega
theorem qn4(p:Pw)(sc:Scs)(l:List Fo)(i:Nat)(hi:i<l.length):(half p sc l i)[i]?=some l[i].v:=by
 unfold half rew;rw[quf,qtW (by simp;omega)];simp[show i - min i l.length=0 by omega,hi]
theorem qoh(p:Pw)(sc:Scs)(l:List Fo)(i:Nat)(hi:i<l.length):(half p sc l i).set i (Fo.wr p sc l[i]).v=half p sc l (i+1):=by
 unfold half rew;apply qu8;intro j;rw[List.getElem?_set];by_cases hj:i=j
 ·subst hj;rw[if_pos rfl,if_pos (by simp;omega),quf,qt0 (by simp;omega)];simp[quv,hi]
 ·rw[if_neg hj,quf,quf];congr 1;by_cases hlt:j<i
  ·rw[qt0 (by simp;omega),qt0 (by simp;omega),quf,quf,quv hlt,quv (by omega)]
  ·rw[qtW (by simp;omega),qtW (by simp;omega)];simp only[qt2,quW,quH];congr 1;omega
structure Pf(c:Cb)(w n:Nat)(h:c.H)(F D F1 D1:Nat→Prop)(S:St)(d:De)(U3:St)(xs:List V)(rf:V)(X:St):Prop where
 fv:Fv (S.length+2) w F1 D1 xs rf X
 wk:Wk c w n h F1 D1 X
 st:Stp w F D S F1 D1 X
 sg:Kp (fun l=>l=w∨F1 l∨(l=S.length∨l=S.length+1)) U3 X
 b0:X[S.length]?=some (.arr [d.v] 7 1)
 b1:X[S.length+1]?=some (.arr [.agg [.int .i64 0,.bool false,.int .i64 0,.sl true [],.sl true [],.sl true [],.sl true []]] 7 1)
theorem qjU(c:Cb)(ok:c.Ok)(w:Nat)(d:De)(H:∀s,s∈d.body→P186 c w s)(hb:d.body.length≤4000)(hbs:∀s,s∈d.body→s.ok)(hf:d.formals.length≤4000)(n:Nat)(h:c.H)(F D:Nat→Prop)(S:St)(v:V)(ts:List Sct)(hk:Wk c w n h F D S)(hsc:ScR c.toPw (fun l=>l=w∨F l) S v ts)
  (hn:n+d.prN≤c.lim):
  Spec prog 256 [.ptr w 0 0 1,d.v,v] S (fun r U=>Wd c w (n+d.prN) (d.prH c.toPw (Scx ts) n h) F D S (d.pr c.toPw (Scx ts) n).v r U):=by
 refine Spec.ib func256 ok256 ?_;unfold De.prN at hn;have hbl:=qa3 (d.formals.map Fo.name) n 0;obtain ⟨S1,hS1⟩:∃S1:St,S1=S++[.arr [d.v] 7 1,.arr [.agg [.int .i64 0,.bool false,.int .i64 0,.sl true [],.sl true [],.sl true [],.sl true []]] 7 1]:=⟨_,rfl⟩;have b0:S1[S.length]?=some (.arr [d.v] 7 1):=by rw[hS1,qtW (by omega)];simp
 have b1:S1[S.length+1]?=some (.arr [.agg [.int .i64 0,.bool false,.int .i64 0,.sl true [],.sl true [],.sl true [],.sl true []]] 7 1):=by rw[hS1,qtW (by omega)];simp
 have l1:S1.length=S.length+2:=by rw[hS1];simp
 have k1:Wk c w n h F D S1:=by rw[hS1];exact hk.push ok _
 have s1:Stp w F D S F D S1:=by rw[hS1];exact (Stp.refl _ _ _ _).push _
 have o0:Off w F D S.length:=hk.out ok (qt1 _);have o1:Off w F D (S.length+1):=hk.out ok (by omega);simp[c256,boxS,ldS,qac];rw[←hS1];refine qan (qrW d S1) ?_;rintro r U2 ⟨rfl,hU2⟩;have k2:Wk c w n h F D U2:=by rw[hU2];exact k1.push ok _
 have s2:Stp w F D S F D U2:=by rw[hU2];exact s1.push _
 have c2:U2[S1.length]?=some (.arr [d.v] 7 1):=by rw[hU2];simp
 have b02:U2[S.length]?=some (.arr [d.v] 7 1):=by rw[hU2];exact gp b0
 have b12:U2[S.length+1]?=some (.arr [.agg [.int .i64 0,.bool false,.int .i64 0,.sl true [],.sl true [],.sl true [],.sl true []]] 7 1):=by rw[hU2];exact gp b1
 have l2:U2.length=S.length+3:=by rw[hU2];simp[l1]
 simp
 refine qan (qgt c ok w n h F D v ts (d.formals.map Fo.name) 277 [.ptr S1.length 0 0 1] S1.length _ (qlq d (by unfold B50;omega) S1.length) (by simp) U2 k2 (fun l=>l=S.length∨l=S.length+1) (by rintro l (rfl|rfl) <;> omega) ((hsc.more (X':=fun l=>l=w∨F l∨(l=S.length∨l=S.length+1)) (fun l hh=>by
  rcases hh with hh|hh|hh|hh
  ·exact .inl (.inl hh)
  ·exact .inl (.inr hh)
  ·exact .inr (by omega)
  ·exact .inr (by omega))).mono (s2.k.mono fun l _ hh=>hh.imp id .inl) fun l hh=>.inl hh) c2 (hk.out ok (by omega)) (by omega)) ?_
 rintro r U3 ⟨t,F1,D1,hts,k3,s3,hsc3⟩;have htl:=Sco.len_of hts;have hscx:Scx (t::ts)=qad (d.formals.map Fo.name) n::Scx ts:=by simp only[Scx,qud,hts]
 have b03:=s3.at o0 b02;have b13:=s3.at o1 b12;have p0:=o0.next (by omega) s3;have p1:=o1.next (by omega) s3;have s3':=s2.trans s3;have l3:=s3.k.len;simp[ldS,b03];refine qan (qrl d.formals hf U3) ?_;rintro rf U4 hcl
 have hpf:Pf c w (n+t.length) (enters c.toPw h (qad (d.formals.map Fo.name) n)) F D F1 D1 S d U3 (half c.toPw (qad (d.formals.map Fo.name) n::Scx ts) d.formals 0) rf U4∧(rf=.arr U3.length 0 d.formals.length d.formals.length∨d.formals=[]):=by
  have h0:half c.toPw (qad (d.formals.map Fo.name) n::Scx ts) d.formals 0=d.formals.map Fo.v:=by simp[half,rew]
  rw[h0];rcases hcl with ⟨h1,⟨b,rfl⟩,rfl⟩|⟨h1,rfl,rfl⟩
  ·exact ⟨⟨.inl ⟨by rw[h1];rfl,b,rfl⟩,k3,s3',Kp.refl _ _,b03,b13⟩,.inr h1⟩
  ·exact ⟨⟨.inr ⟨U3.length,d.formals.length,by omega,k3.out ok (qt1 _),by simp,by simp,by simp⟩,k3.push ok _,s3'.push _,(Kp.refl _ _).push _,gp b03,gp b13⟩,.inl rfl⟩
 obtain ⟨hpf,hrf⟩:=hpf;have hlen:lenS rf=some (.int .i64 d.formals.length):=by have:=hpf.fv.len;rwa [qg6 _ _ _ _ (by omega)] at this
 simp[↓qbm,hlen];refine qaz (fun e X=>Pf c w (n+t.length) (enters c.toPw h (qad (d.formals.map Fo.name) n)) F D F1 D1 S d U3 ((rew c.toPw (qad (d.formals.map Fo.name) n::Scx ts) d.formals).map Fo.v) rf X∧e.get 8=some rf∧e.get 7=some r∧e.get 0=some (.ptr w 0 0 1)∧e.get 4=some (.ptr S.length 0 0 1)∧e.get 6=some (.ptr (S.length+1) 0 0 1)) ?_ ?_
 ·refine qar (fun j e X=>∃i:Nat,j=d.formals.length - i∧i≤d.formals.length∧Pf c w (n+t.length) (enters c.toPw h (qad (d.formals.map Fo.name) n)) F D F1 D1 S d U3 (half c.toPw (qad (d.formals.map Fo.name) n::Scx ts) d.formals i) rf X∧
    e=[(20,.int .i64 i),(19,.int .i64 d.formals.length),(8,rf),(7,r),(0,.ptr w 0 0 1),(4,.ptr S.length 0 0 1),(6,.ptr (S.length+1) 0 0 1)]) d.formals.length _ ?_ ⟨0,by simp,by omega,hpf,rfl⟩ ?_
  ·exact Env.so (by simp)
  rintro j e X ⟨i,rfl,hi,hp,rfl⟩;by_cases hlt:i<d.formals.length
  ·have hpsc:=hsc3.mono hp.sg fun l hh=>.inl hh
   have hfind:=qfK hpsc d.formals[i].name;have hat:=qeM (t::ts) d.formals[i].name;rw[hscx] at hat
   obtain ⟨q,hq⟩:∃q,fnd (t::ts) d.formals[i].name=some q:=by
    have:=qdg (d.formals.map Fo.name) n (Scx ts) d.formals[i].name (quz (qt7 hlt));rw[hat] at this
    cases hf:fnd (t::ts) d.formals[i].name with
    | none=>rw[hf] at this;cases this
    | some q=>exact ⟨q,rfl⟩
   have hv:fndV (t::ts) d.formals[i].name=.ptr q.2 0 0 1:=by simp[fndV,hq]
   have hr:retp c.toPw (qad (d.formals.map Fo.name) n::Scx ts) d.formals[i].name=c.f q.1 d.formals[i].name:=by unfold retp;rw[hat,hq];rfl
   rw[hv] at hfind;have hg1:=hpsc.fnd_get hq;unfold plc at hg1;have hne:d.formals≠[]:=by intro hh;rw[hh] at hlt;simp at hlt
   have hrf':=hrf.resolve_right hne;subst hrf';have hl:=qg6 c.toPw (qad (d.formals.map Fo.name) n::Scx ts) d.formals i (by omega);have hget:=qn4 c.toPw (qad (d.formals.map Fo.name) n::Scx ts) d.formals i hlt;have hset:=qoh c.toPw (qad (d.formals.map Fo.name) n::Scx ts) d.formals i hlt;have hl':=qg6 c.toPw (qad (d.formals.map Fo.name) n::Scx ts) d.formals (i+1) (by omega);rcases hp.fv with ⟨h1,_⟩|⟨fl,wr,z1,z2,z3,z4,z5⟩
   ·rw[h1] at hl;simp at hl;omega
   rw[hl] at z3 z5;cases z3
   have hupd:V.upd d.formals[i].v 0 1 (.str (c.f q.1 d.formals[i].name))=some (Fo.wr c.toPw (qad (d.formals.map Fo.name) n::Scx ts) d.formals[i]).v:=by
    rw[qpm,qac];unfold Fo.wr;rw[hr];rfl
   have hia:iaS X 4 (.arr U3.length 0 d.formals.length d.formals.length) (i:Int)=some (.ptr U3.length i 0 d.formals.length):=by
    simp[iaS,z4,z5,hlt]
   have hld:ldS X (.ptr U3.length i 0 d.formals.length) none=some (.str d.formals[i].name):=by
    simp[ldS,z4,z5,hlt,hget]
   have hst:stS X (.ptr U3.length i 0 d.formals.length) 1 (.str (c.f q.1 d.formals[i].name))=some (X.set U3.length (.arr (half c.toPw (qad (d.formals.map Fo.name) n::Scx ts) d.formals (i+1)) 4 d.formals.length)):=by
    simp[stS,z4,hl,hget,hupd,hset]
   simp[hlt,hia,hld];refine qai hfind ?_;have hld2:ldS X (.ptr q.2 0 2 1) none=some (.str (c.f q.1 d.formals[i].name)):=by simp[ldS,hg1]
   simp[qbb,hia,hld2,hst,qaL (n:=(i:Int)+1)];have hltX:U3.length<X.length:=(qtV.1 z4).1;refine ⟨_,?_,_,?_,i+1,rfl,by omega,⟨.inr ⟨U3.length,d.formals.length,z1,z2,by rw[hl'],qtZ hltX,by rw[hl'];exact qt1 _⟩,hp.wk.set ok _ z2.1 z2.2.1 z2.2.2,hp.st.set _ (by omega),hp.sg.set _ (.inr (qt1 _)),?_,?_⟩,rfl⟩
   ·omega
   ·exact Env.so (by simp)
   ·rw[qtY (by omega)];exact hp.b0
   ·rw[qtY (by omega)];exact hp.b1
  ·have:i=d.formals.length:=by omega
   subst this;have he:half c.toPw (qad (d.formals.map Fo.name) n::Scx ts) d.formals d.formals.length=(rew c.toPw (qad (d.formals.map Fo.name) n::Scx ts) d.formals).map Fo.v:=by simp[half]
   rw[he] at hp;simp;exact hp
 rintro e X ⟨hp,g8,g7,g0,g4,g6⟩;obtain ⟨f1,f2,f3⟩:=hp.fv.flat;have fl':=hp.fv.flat;obtain ⟨X1,hX1⟩:∃X1:St,X1=X.set S.length (.arr [.agg [.int .i64 d.kind,.bool d.own,.int .i64 d.type,.sl false (d.names.map .str),.sl false (d.exps.map Ex.v),rf,.sl false (d.body.map Sm.v)]] 7 1):=⟨_,rfl⟩;have lX:S.length<X.length:=glt hp.b0;have q0:X1[S.length]?=some (.arr [.agg [.int .i64 d.kind,.bool d.own,.int .i64 d.type,.sl false (d.names.map .str),.sl false (d.exps.map Ex.v),rf,.sl false (d.body.map Sm.v)]] 7 1):=by rw[hX1,qtZ lX]
 have q1:X1[S.length+1]?=some (.arr [.agg [.int .i64 0,.bool false,.int .i64 0,.sl true [],.sl true [],.sl true [],.sl true []]] 7 1):=by rw[hX1,qtY (by omega)];exact hp.b1
 have kX:Wk c w (n+t.length) (enters c.toPw h (qad (d.formals.map Fo.name) n)) F1 D1 X1:=by rw[hX1];exact hp.wk.set ok _ p0.1 p0.2.1 p0.2.2
 have sX:Stp w F D S F1 D1 X1:=by rw[hX1];exact hp.st.set _ (qt1 _)
 have scX:ScR c.toPw (fun l=>l=w∨F1 l) X1 r (t::ts):=by
  rw[hX1];exact (hsc3.mono (hp.sg.set _ (.inl (.inr (.inr (.inl rfl))))) fun l hh=>.inl hh).sub fun l hh=>hh.imp id .inl
 have fvX:Fv (S.length+2) w F1 D1 ((rew c.toPw (qad (d.formals.map Fo.name) n::Scx ts) d.formals).map Fo.v) rf X1:=by
  rcases hp.fv with hh|⟨fl,wr,z1,z2,z3,z4,z5⟩
  ·exact .inl hh
  ·exact .inr ⟨fl,wr,z1,z2,z3,by rw[hX1,qtY (by omega)];exact z4,z5⟩
 simp[g8,g7,g0,g4,stS,hp.b0,qgg,qac,f1,f2,f3];rw[←hX1];simp[ldS,q0,g8,g7,g0,g4,g6];have q2:=qet c ok w d.body false H hb hbs _ _ F1 D1 X1 r (t::ts) kX scX (by omega);rw[hscx] at q2;refine qan q2 ?_;rintro r2 U5 ⟨rfl,F2,D2,k5,s5⟩;have c0:=s5.at p0 q0;have c1:=s5.at p1 q1;obtain ⟨av,hav⟩:∃av:V,av=.agg [.int .i64 d.kind,.bool d.own,.int .i64 d.type,.sl false (d.names.map .str),.sl false (d.exps.map Ex.v),rf,.sl false ((Sm.wr1 c.toPw (qad (d.formals.map Fo.name) n::Scx ts) (n+t.length) d.body).map Sm.v)]:=⟨_,rfl⟩;have c0':(U5.set S.length (.arr [av] 7 1))[S.length]?=some (.arr [av] 7 1):=qtZ (glt c0);have c1':(U5.set S.length (.arr [av] 7 1))[S.length+1]?=some (.arr [.agg [.int .i64 0,.bool false,.int .i64 0,.sl true [],.sl true [],.sl true [],.sl true []]] 7 1):=by rw[qtY (by omega)];exact c1
 have lt1:S.length+1<U5.length:=glt c1;have lX1:S.length+1<X1.length:=glt q1;have p0':=p0.next (by omega) s5;have p1':=p1.next (by omega) s5;have kf:=(k5.set ok (.arr [av] 7 1) p0'.1 p0'.2.1 p0'.2.2).set ok (.arr [av] 7 1) p1'.1 p1'.2.1 p1'.2.2;have sf:=((sX.trans s5).set (.arr [av] 7 1) (qt1 S.length)).set (l:=S.length+1) (.arr [av] 7 1) (by omega)
 have ff:Fv (S.length+2) w F2 D2 ((rew c.toPw (qad (d.formals.map Fo.name) n::Scx ts) d.formals).map Fo.v) rf ((U5.set S.length (.arr [av] 7 1)).set (S.length+1) (.arr [av] 7 1)):=by
  rcases fvX.step s5 with hh|⟨fl,wr,z1,z2,z3,z4,z5⟩
  ·exact .inl hh
  ·exact .inr ⟨fl,wr,z1,z2,z3,by rw[qtY (by omega),qtY (by omega)];exact z4,z5⟩
 have hget:((U5.set S.length (.arr [av] 7 1)).set (S.length+1) (.arr [av] 7 1))[S.length+1]?=some (.arr [av] 7 1):=qtZ (by simp;omega);simp[g4,stS,c0,qac,f1,f2,f3];rw[←hav];have hpart:V.part av 0 (some 7)=some av:=by rw[hav,qah];rfl
 have hsz:av.size=7:=by rw[hav];rfl
 have hcl:av.cells.all V.flat=true:=by rw[hav];simp[f2]
 have hcl':∀x,x∈av.cells→x.flat=true:=by simpa[quj] using hcl
 simp[stS,ldS,c0',c1',g4,g6,qac,hpart,hsz];rw[if_pos hcl'];obtain ⟨U6,g,k6,s6⟩:=ff.fin ok (by omega) kf sf (S0:=S) (F0:=F) (D0:=D) (a:=[.int .i64 d.kind,.bool d.own,.int .i64 d.type,.sl false (d.names.map .str),.sl false (d.exps.map Ex.v)]) (b:=[.sl false ((Sm.wr1 c.toPw (qad (d.formals.map Fo.name) n::Scx ts) (n+t.length) d.body).map Sm.v)])
  (by simp[V.underL,V.under]) (by simp[V.underL,V.under]) (by simp only[V.weakL,V.weak,wStr,wEx]) (by simp only[V.weakL,V.weak,wSm])
 simp only[qt8,qut,wFo] at g;rw[←hav] at g;refine ⟨[av],by simp[rvs,g6,ldS,hget,hpart],_,U6,g,?_,F2,D2,?_,s6⟩
 ·unfold De.pr;rw[De.v_eq,←htl];rfl
 ·have:n+t.length+Sm.nb1 d.body=n+d.prN:=by unfold De.prN;omega
  rw[this] at k6;unfold De.prH;rw[←htl];exact k6
def De.d1(p:Pw)(own sc:Scs)(d:De):De:=.mk d.kind d.own d.type (rets p own d.names) (Ex.wrl p (if d.kind=2 then sc else own) false d.exps) d.formals d.body
theorem De.wr_eq(p:Pw)(own sc:Scs)(n:Nat)(d:De):d.wr p own sc n=if d.kind=4 then (d.d1 p own sc).pr p own n else d.d1 p own sc:=by
 cases d with
 | mk k o t nm e fo b=>
  rw[De.wr];show _=if k=4 then (De.d1 p own sc (.mk k o t nm e fo b)).pr p own n else De.d1 p own sc (.mk k o t nm e fo b)
  by_cases h:k=4
  ·subst h;rfl
  ·rw[if_neg h,if_neg h];rfl
theorem De.hs_eq(p:Pw)(own sc:Scs)(n:Nat)(h:p.H)(d:De):d.hs p own sc n h=if d.kind=4 then (d.d1 p own sc).prH p own n (Ex.hsl p (if d.kind=2 then sc else own) false h d.exps) else Ex.hsl p (if d.kind=2 then sc else own) false h d.exps:=by
 cases d with
 | mk k o t nm e fo b=>
  rw[De.hs];show _=if k=4 then (De.d1 p own sc (.mk k o t nm e fo b)).prH p own n (Ex.hsl p (if k=2 then sc else own) false h e) else Ex.hsl p (if k=2 then sc else own) false h e
  by_cases h:k=4
  ·subst h;rfl
  ·rw[if_neg h,if_neg h]
theorem De.nb_eq(d:De):d.nb=if d.kind=4 then d.prN else 0:=by
 cases d with
 | mk k o t nm e fo b=>rw[De.nb];rfl
theorem De.size_parts(d:De):(Pa.de d).size=1+d.names.length+d.formals.length+qaB (d.exps.map Pa.ex)+qaB (d.body.map Pa.st):=by
 rw[Pa.size_eq];simp only[Pa.own,Pa.kids,qa2];omega
theorem qjD(p:Pw)(own sc:Scs):∀(m:List De) (n:Nat),(De.wrl p own sc n m).length=m.length
 | [],_=>rfl
 | x::m,n=>by simp only[De.wrl,quy,qjD p own sc m]
theorem Gw.lt{sz n0 w:Nat}{F D:Nat→Prop}{xs:List V}{v:V}{S:St}(h:Gw sz n0 w F D xs v S):∀l a b c,v=.arr l a b c→l<S.length:=by
 intro l a b c hv;rcases h with ⟨_,rfl⟩|⟨l',wr,_,_,rfl,h4,_⟩
 ·cases hv
 ·cases hv;exact (qtV.1 h4).1
theorem Gw.set{sz n0 w:Nat}{F D:Nat→Prop}{xs:List V}{v:V}{S:St}(h:Gw sz n0 w F D xs v S){b:Nat}(o:Ob)(hne:∀l x y z,v=.arr l x y z→l<b):Gw sz n0 w F D xs v (S.set b o):=by
 rcases h with h|⟨l,wr,h1,h2,h3,h4,h5⟩
 ·exact .inl h
 ·exact .inr ⟨l,wr,h1,h2,h3,by rw[qtY (Nat.ne_of_gt (hne _ _ _ _ h3))];exact h4,h5⟩
theorem qkk(c:Cb)(ok:c.Ok)(w:Nat)(l:List De)(hl:qaB (l.map Pa.de)≤4000)(H:∀d,d∈l→∀s,s∈d.body→P186 c w s)(hok:∀d,d∈l→∀s,s∈d.body→s.ok)(n:Nat)(h:c.H)(F D:Nat→Prop)(S:St)(v1 v2:V)(tso ts:List Sct)(hk:Wk c w n h F D S)
  (hsc1:ScR c.toPw (fun l=>l=w∨F l) S v1 tso) (hsc2:ScR c.toPw (fun l=>l=w∨F l) S v2 ts) (hin:∀d,d∈l→inSc (Scx tso) d.names) (hn:n+De.nbl l≤c.lim):
  Spec prog 220 [.ptr w 0 0 1,.sl false (l.map De.v),v1,v2] S (fun r U=>Wd c w (n+De.nbl l) (De.hsl c.toPw (Scx tso) (Scx ts) n h l) F D S (.sl false ((De.wrl c.toPw (Scx tso) (Scx ts) n l).map De.v)) r U):=by
 have hlen:l.length≤4000:=by have:=qaP (l.map Pa.de);rw[qt2] at this;omega
 refine Spec.ib func220 ok220 ?_;simp[c220];refine qaz (Ww c 7 w (n+De.nbl l) (De.hsl c.toPw (Scx tso) (Scx ts) n h l) F D S 9 ((De.wrl c.toPw (Scx tso) (Scx ts) n l).map De.v)) ?_ ?_
 ·refine qar (Lw c 7 w F D S l.length (fun i=>n+De.nbl (l.take i)) (fun i=>De.hsl c.toPw (Scx tso) (Scx ts) n h (l.take i)) (fun i=>(De.wrl c.toPw (Scx tso) (Scx ts) n (l.take i)).map De.v)
   (fun i gv=>[(14,.int .i64 i),(13,.int .i64 l.length),(12,.sl false (l.map De.v)),(9,gv),(0,.ptr w 0 0 1),(2,v1),(3,v2)])) l.length _ ?_ ⟨0,_,F,D,by simp,by omega,Gw.nil _ _ _ _ _ _,hk,Stp.refl _ _ _ _,rfl⟩ ?_
  ·exact Env.so (by simp)
  rintro j e U ⟨i,gv,F1,D1,rfl,hi,hg,hk1,hs1,rfl⟩;dsimp only at hg hk1;by_cases hlt:i<l.length
  case neg=>
   have:i=l.length:=by omega
   subst this;simp only[qun] at hg hk1;simp;exact ⟨gv,F1,D1,rfl,hg,hk1,hs1⟩
  have hmem:l[i]∈l:=qt7 hlt;have ht:l.take (i+1)=l.take i++[l[i]]:=by rw[qt9,qtX hlt];rfl
  have hnb:De.nbl (l.take (i+1))=De.nbl (l.take i)+l[i].nb:=by rw[ht,De.nbl_append];simp[De.nbl]
  have hnl:De.nbl (l.take (i+1))≤De.nbl l:=by
   have:De.nbl l=De.nbl (l.take (i+1))+De.nbl (l.drop (i+1)):=by rw[←De.nbl_append,quF]
   omega
  have hszd:(Pa.de l[i]).size≤4000:=by
   have:=qaW (l:=l.map Pa.de) (i:=i) (q:=Pa.de l[i]) (by simp[hlt]);omega
  rw[De.size_parts] at hszd;have hbl:l[i].body.length≤4000:=by have:=qaP (l[i].body.map Pa.st);rw[qt2] at this;omega
  obtain ⟨d,hd⟩:∃d:De,d=l[i]:=⟨_,rfl⟩;have hv0:Ob.arr [l[i].v] 7 1=.arr [.agg [.int .i64 d.kind,.bool d.own,.int .i64 d.type,.sl false (d.names.map .str),.sl false (d.exps.map Ex.v),.sl false (d.formals.map Fo.v),.sl false (d.body.map Sm.v)]] 7 1:=by rw[←hd,De.v_eq]
  obtain ⟨U1,hU1⟩:∃U1:St,U1=U++[.arr [l[i].v] 7 1]:=⟨_,rfl⟩;have b1:U1[U.length]?=some (.arr [l[i].v] 7 1):=by rw[hU1];simp
  have k1:=hk1.push ok [.arr [l[i].v] 7 1];rw[←hU1] at k1;have s1:Stp w F D S F1 D1 U1:=by rw[hU1];exact hs1.push _
  have g1:Gw 7 S.length w F1 D1 ((De.wrl c.toPw (Scx tso) (Scx ts) n (l.take i)).map De.v) gv U1:=by rw[hU1];exact hg.push _
  have o1:Off w F1 D1 U.length:=hk1.out ok (qt1 _);have lU1:U1.length=U.length+1:=by rw[hU1];simp
  have lSU:=hs1.k.len;simp[hlt,iaDe,boxS,stS,qac,ldS];rw[←hU1];refine qan (ql9 c ok w l[i].names (by omega) _ _ F1 D1 U1 v1 tso (hin _ hmem) k1 (hsc1.step s1)) ?_;rintro r U2 ⟨rfl,F2,D2,k2,s2⟩;have b2:=s2.at o1 b1;have o2:=o1.next (by omega) s2;have g2:=g1.step s2;have s12:=s1.trans s2;have l2:=s2.k.len;obtain ⟨d1,hd1⟩:∃d1:De,d1=.mk d.kind d.own d.type (rets c.toPw (Scx tso) d.names) d.exps d.formals d.body:=⟨_,rfl⟩;have hd1v:d1.v=.agg [.int .i64 d.kind,.bool d.own,.int .i64 d.type,.sl false ((rets c.toPw (Scx tso) d.names).map .str),.sl false (d.exps.map Ex.v),.sl false (d.formals.map Fo.v),.sl false (d.body.map Sm.v)]:=by rw[hd1,De.v_eq];rfl
  obtain ⟨U3,hU3⟩:∃U3:St,U3=U2.set U.length (.arr [d1.v] 7 1):=⟨_,rfl⟩;have b3:U3[U.length]?=some (.arr [d1.v] 7 1):=by rw[hU3,qtZ (glt b2)]
  have k3:=k2.set ok (.arr [d1.v] 7 1) o2.1 o2.2.1 o2.2.2;rw[←hU3] at k3;have s3:Stp w F D S F2 D2 U3:=by rw[hU3];exact s12.set _ lSU
  have g3:Gw 7 S.length w F2 D2 ((De.wrl c.toPw (Scx tso) (Scx ts) n (l.take i)).map De.v) gv U3:=by rw[hU3];exact g2.set _ hg.lt
  simp[ldS,b2,stS,qgg,qac];rw[←hd,←hd1v,←hU3];have d1k:d1.kind=d.kind:=by rw[hd1];rfl
  have d1e:d1.exps=d.exps:=by rw[hd1];rfl
  obtain ⟨tse,htse⟩:∃tse,tse=if d.kind=2 then ts else tso:=⟨_,rfl⟩
  have htse':Scx tse=if d.kind=2 then Scx ts else Scx tso:=by rw[htse];split <;> rfl
  have hexp:∀(ve:V),ScR c.toPw (fun l=>l=w∨F l) S ve tse→Spec prog 134 [.ptr w 0 0 1,.sl false (d.exps.map Ex.v),ve,.bool false] U3 (fun r U=>Wd c w (n+De.nbl (l.take i)) (Ex.hsl c.toPw (Scx tse) false (De.hsl c.toPw (Scx tso) (Scx ts) n h (l.take i)) d.exps) F2 D2 U3 (.sl false ((Ex.wrl c.toPw (Scx tse) false d.exps).map Ex.v)) r U):=fun ve hve=>
   qgx c ok w d.exps (by rw[hd];omega) _ _ F2 D2 U3 ve tse false k3 (hve.step s3)
  have l3:U3.length=U2.length:=by rw[hU3];simp
  have o3:Off w F2 D2 U.length:=o2;obtain ⟨d2,hd2⟩:∃d2:De,d2=d.d1 c.toPw (Scx tso) (Scx ts):=⟨_,rfl⟩
  have hd2v:d2.v=.agg [.int .i64 d1.kind,.bool d1.own,.int .i64 d1.type,.sl false (d1.names.map .str),.sl false ((Ex.wrl c.toPw (Scx tse) false d.exps).map Ex.v),.sl false (d1.formals.map Fo.v),.sl false (d1.body.map Sm.v)]:=by
   rw[hd2,De.v_eq,hd1,htse'];rfl
  have d2k:d2.kind=d.kind:=by rw[hd2];rfl
  have hw:l[i].wr c.toPw (Scx tso) (Scx ts) (n+De.nbl (l.take i))=if d.kind=4 then d2.pr c.toPw (Scx tso) (n+De.nbl (l.take i)) else d2:=by rw[←hd,De.wr_eq,hd2]
  have hhs:De.hs c.toPw (Scx tso) (Scx ts) (n+De.nbl (l.take i)) (De.hsl c.toPw (Scx tso) (Scx ts) n h (l.take i)) l[i]=if d.kind=4 then d2.prH c.toPw (Scx tso) (n+De.nbl (l.take i)) (Ex.hsl c.toPw (Scx tse) false (De.hsl c.toPw (Scx tso) (Scx ts) n h (l.take i)) d.exps) else Ex.hsl c.toPw (Scx tse) false (De.hsl c.toPw (Scx tso) (Scx ts) n h (l.take i)) d.exps:=by rw[←hd,De.hs_eq,hd2,htse']
  have hnb':l[i].nb=if d.kind=4 then d2.prN else 0:=by rw[←hd,De.nb_eq,hd2];rfl
  have fin:∀(F' D':Nat→Prop) (X:St),Wk c w (n+De.nbl (l.take i)+l[i].nb) (De.hs c.toPw (Scx tso) (Scx ts) (n+De.nbl (l.take i)) (De.hsl c.toPw (Scx tso) (Scx ts) n h (l.take i)) l[i]) F' D' X→Stp w F D S F' D' X→Gw 7 S.length w F' D' ((De.wrl c.toPw (Scx tso) (Scx ts) n (l.take i)).map De.v) gv X→
    ∃v' X',appS X 7 120 gv (.sl true [(l[i].wr c.toPw (Scx tso) (Scx ts) (n+De.nbl (l.take i))).v])=some (v',X')∧Gw 7 S.length w F' D' ((De.wrl c.toPw (Scx tso) (Scx ts) n (l.take (i+1))).map De.v) v' X'∧Wk c w (n+De.nbl (l.take (i+1))) (De.hsl c.toPw (Scx tso) (Scx ts) n h (l.take (i+1))) F' D' X'∧Stp w F D S F' D' X':=fun F' D' X hk hs hg=>by
   obtain ⟨v',X',ha,hg3,hk3,hs4⟩:=hg.app1 ok (bytes:=120) (b:=true) hk hs (De.fits1 (l[i].wr c.toPw (Scx tso) (Scx ts) (n+De.nbl (l.take i)))) (by
    rw[qt2,qjD,quW];omega)
   have hn1:(De.wrl c.toPw (Scx tso) (Scx ts) n (l.take i)).map De.v++[(l[i].wr c.toPw (Scx tso) (Scx ts) (n+De.nbl (l.take i))).v]=(De.wrl c.toPw (Scx tso) (Scx ts) n (l.take (i+1))).map De.v:=by
    rw[ht,De.wrl_append,quh];rfl
   have hn2:De.hs c.toPw (Scx tso) (Scx ts) (n+De.nbl (l.take i)) (De.hsl c.toPw (Scx tso) (Scx ts) n h (l.take i)) l[i]=De.hsl c.toPw (Scx tso) (Scx ts) n h (l.take (i+1)):=by
    rw[ht,De.hsl_append];rfl
   rw[hn1] at hg3;rw[hn2,quN,←hnb] at hk3;exact ⟨v',X',ha,hg3,hk3,hs4⟩
  rw[hw] at fin;by_cases h2:d.kind=2
  all_goals
   simp[ldS,b3,d1k,d1e,h2]
   refine qan (hexp _ (by rw[htse];first|(rw[if_pos h2];exact hsc2)|(rw[if_neg h2];exact hsc1))) ?_
   rintro r U4 ⟨rfl,F3,D3,k4,s4⟩
   have b4:=s4.at o3 b3
   have lU3:U.length<U3.length:=glt b3
   have o4:=o3.next lU3 s4
   have g4:=(g3.step s4).set (.arr [d2.v] 7 1) hg.lt
   have s34:=(s3.trans s4).set (.arr [d2.v] 7 1) lSU
   have k5:=k4.set ok (.arr [d2.v] 7 1) o4.1 o4.2.1 o4.2.2
   have b5:(U4.set U.length (.arr [d2.v] 7 1))[U.length]?=some (.arr [d2.v] 7 1):=qtZ (glt b4)
   simp[ldS,b4,stS,qgg,qac]
   rw[←hd2v]
   generalize U4.set U.length (.arr [d2.v] 7 1)=U5 at g4 s34 k5 b5 ⊢
   by_cases h4:d.kind=4
   ·have q:=qjU c ok w d2 (by rw[hd2,hd];exact H l[i] hmem) (by rw[hd2,hd];exact hbl) (by rw[hd2,hd];exact hok l[i] hmem) (by rw[hd2,hd];show l[i].formals.length≤4000;omega) _ _ F3 D3 U5 v1 tso k5 (hsc1.step s34) (by rw[if_pos h4] at hnb';omega);simp[ldS,b5,d2k,h4];refine qan q ?_;rintro r U6 ⟨rfl,F4,D4,k6,s6⟩;have b6:=s6.at o4 b5;have lU5:U.length<U5.length:=glt b5;have o6:=o4.next lU5 s6;obtain ⟨d3,hd3⟩:∃d3:De,d3=d2.pr c.toPw (Scx tso) (n+De.nbl (l.take i)):=⟨_,rfl⟩;rw[hnb',if_pos h4,hhs,if_pos h4,if_pos h4,←hd3] at fin;rw[←hd3];have g6:=(g4.step s6).set (.arr [d3.v] 7 1) hg.lt;have s56:=(s34.trans s6).set (.arr [d3.v] 7 1) lSU;have k7:=k6.set ok (.arr [d3.v] 7 1) o6.1 o6.2.1 o6.2.2;have b7:(U6.set U.length (.arr [d3.v] 7 1))[U.length]?=some (.arr [d3.v] 7 1):=qtZ (glt b6);obtain ⟨v',X',ha,hg3,hk3,hs4⟩:=fin F4 D4 _ k7 s56 g6;simp[ldS,b6,stS,qgg,qac];generalize U6.set U.length (.arr [d3.v] 7 1)=U7 at ha b7 ⊢;simp[ldS,b7,De.fits1,ha,qaL (n:=(i:Int)+1)];refine ⟨_,?_,_,?_,i+1,v',F4,D4,rfl,by omega,hg3,hk3,hs4,rfl⟩
    ·omega
    ·exact Env.so (by simp)
   ·rw[hnb',if_neg h4,hhs,if_neg h4,if_neg h4] at fin;obtain ⟨v',X',ha,hg3,hk3,hs4⟩:=fin F3 D3 U5 k5 s34 g4;simp[ldS,b5,d2k,h4,De.fits1,ha,qaL (n:=(i:Int)+1)];refine ⟨_,?_,_,?_,i+1,v',F3,D3,rfl,by omega,hg3,hk3,hs4,rfl⟩
    ·omega
    ·exact Env.so (by simp)
 rintro e U ⟨gv,F1,D1,g9,hg,hk1,hs1⟩;simp[g9];exact qeG ok rfl hg hk1 hs1 (by rw[←qaI,wDe])
theorem Sm.wr_eq(p:Pw)(sc:Scs)(n:Nat)(s:Sm):s.wr p sc n=
  if s.kind=7 then .mk (rets p sc s.labels) s.kind s.text (Ex.wrl p sc true s.targets) s.exps s.elems (De.wrl p (qad (qag s.decls s.body) n::sc) sc (n+(qad (qag s.decls s.body) n).length) s.decls) (Sm.wrl p (qad (qag s.decls s.body) n::sc) (n+(qad (qag s.decls s.body) n).length+De.nbl s.decls) s.body)
  else if s.kind=8 then .mk (rets p sc s.labels) s.kind s.text (Ex.wrl p sc true s.targets) s.exps s.elems s.decls (Sm.wrl p (qad (qak s.body) n::sc) (n+(qad (qak s.body) n).length) s.body)
  else .mk (rets p sc s.labels) s.kind (p.clE sc s.kind s.text) (Ex.wrl p sc true s.targets) (Ex.wrl p sc false s.exps) (El.wrl p sc s.elems) s.decls (Sm.wr1 p sc n s.body):=by
 cases s;rw[Sm.wr];rfl
theorem Sm.hs_eq(p:Pw)(sc:Scs)(n:Nat)(h:p.H)(s:Sm):s.hs p sc n h=
  if s.kind=7 then Sm.hsl p (qad (qag s.decls s.body) n::sc) (n+(qad (qag s.decls s.body) n).length+De.nbl s.decls) (De.hsl p (qad (qag s.decls s.body) n::sc) sc (n+(qad (qag s.decls s.body) n).length) (enters p (Ex.hsl p sc true h s.targets) (qad (qag s.decls s.body) n)) s.decls) s.body
  else if s.kind=8 then Sm.hsl p (qad (qak s.body) n::sc) (n+(qad (qak s.body) n).length) (enters p (Ex.hsl p sc true h s.targets) (qad (qak s.body) n)) s.body
  else p.clS sc s.kind (Sm.hs1 p sc n (El.hsl p sc (Ex.hsl p sc false (Ex.hsl p sc true h s.targets) s.exps) s.elems) s.body) s.text:=by
 cases s;rw[Sm.hs];rfl
theorem Sm.nb_eq(s:Sm):s.nb=if s.kind=7 then (qad (qag s.decls s.body) 0).length+De.nbl s.decls+Sm.nbl s.body else if s.kind=8 then (qad (qak s.body) 0).length+Sm.nbl s.body else Sm.nb1 s.body:=by
 cases s;rw[Sm.nb];rfl
theorem Sm.size_parts(s:Sm):(Pa.st s).size=1+s.labels.length+qaB (s.targets.map Pa.ex)+qaB (s.exps.map Pa.ex)+qaB (s.elems.map Pa.el)+qaB (s.decls.map Pa.de)+qaB (s.body.map Pa.st):=by
 rw[Pa.size_eq];simp only[Pa.own,Pa.kids,qa2];omega
theorem gpp{U:St}{x:Nat}{o:Ob}{os:List Ob}(h:U[x]?=some o):(U++os)[x]?=some o:=by rw[qt0 (qtV.1 h).1];exact h
abbrev smZ:V:=.agg [.sl true [],.int .i64 0,.str ⟨⟨[]⟩⟩,.sl true [],.sl true [],.sl true [],.sl true [],.sl true []]
theorem ScR.yb{p:Pw}{w:Nat}{F D F' D':Nat→Prop}{S X:St}{v:V}{ts:List Sct}(h:ScR p (fun l=>l=w∨F l) S v ts)(s:Stp w F D S F' D' X):ScR p (fun l=>l=w∨F' l∨(l=S.length∨l=S.length+1)) X v ts:=
 h.mono s.k fun l hh=>by
  rcases hh with hh|hh|hh|hh
  ·exact .inl (.inl hh)
  ·exact (s.gF l hh).imp .inr id
  ·exact .inr (by omega)
  ·exact .inr (by omega)
structure Bx(c:Cb)(w n:Nat)(h:c.H)(F D:Nat→Prop)(S:St)(y:Sm)(F' D':Nat→Prop)(X:St):Prop where
 b0:X[S.length]?=some (.arr [y.v] 8 1)
 b1:X[S.length+1]?=some (.arr [smZ] 8 1)
 wk:Wk c w n h F' D' X
 st:Stp w F D S F' D' X
 o0:Off w F' D' S.length
 o1:Off w F' D' (S.length+1)
section
variable {c:Cb} (ok:c.Ok) {w n:Nat} {h:c.H} {F D F' D':Nat→Prop} {S X:St} {y:Sm} (b:Bx c w n h F D S y F' D' X)
include b
theorem Bx.call{n':Nat}{h':c.H}{x r:V}{U:St}(d:Wd c w n' h' F' D' X x r U):r=x∧∃F2 D2,Bx c w n' h' F D S y F2 D2 U:=by
 obtain ⟨rfl,F2,D2,k,s⟩:=d;have l0:=glt b.b0;have l1:=glt b.b1;exact ⟨rfl,F2,D2,s.at b.o0 b.b0,s.at b.o1 b.b1,k,b.st.trans s,b.o0.next l0 s,b.o1.next l1 s⟩
theorem Bx.step{n':Nat}{h':c.H}{F2 D2:Nat→Prop}{U:St}(k:Wk c w n' h' F2 D2 U)(s:Stp w F' D' X F2 D2 U):Bx c w n' h' F D S y F2 D2 U:=by
 have l0:=glt b.b0;have l1:=glt b.b1;exact ⟨s.at b.o0 b.b0,s.at b.o1 b.b1,k,b.st.trans s,b.o0.next l0 s,b.o1.next l1 s⟩
omit b in
def Yb(S:St)(l:Nat):Prop:=l=S.length∨l=S.length+1
include ok
theorem Bx.put(y':Sm):Bx c w n h F D S y' F' D' (X.set S.length (.arr [y'.v] 8 1)):=by
 have l1:=glt b.b1;exact ⟨qtZ (glt b.b0),by rw[qtY (by omega)];exact b.b1,b.wk.set ok _ b.o0.1 b.o0.2.1 b.o0.2.2,b.st.set _ (qt1 _),b.o0,b.o1⟩
theorem Bx.push(os:List Ob):Bx c w n h F D S y F' D' (X++os):=⟨gpp b.b0,gpp b.b1,b.wk.push ok _,b.st.push _,b.o0,b.o1⟩
theorem Bx.fin{e:Env}(he:e.get 6=some (.ptr (S.length+1) 0 0 1)):endp [.cell 6 (some 8)] S.length (fun r U=>Wd c w n h F D S y.v r U) .ret e (X.set (S.length+1) (.arr [y.v] 8 1)):=by
 have hz:(X.set (S.length+1) (.arr [y.v] 8 1))[S.length+1]?=some (.arr [y.v] 8 1):=qtZ (glt b.b1);exact qaj (vs:=[y.v]) (by simp[rvs,he,ldS,hz]) ⟨rfl,F',D',b.wk.set ok _ b.o1.1 b.o1.2.1 b.o1.2.2,b.st.set _ (by omega)⟩
end
theorem smV(a:List ByteArray)(k:Int)(t:ByteArray)(g e:List Ex)(l:List El)(d:List De)(b:List Sm):V.agg [.sl false (a.map .str),.int .i64 k,.str t,.sl false (g.map Ex.v),.sl false (e.map Ex.v),.sl false (l.map El.v),.sl false (d.map De.v),.sl false (b.map Sm.v)]=(Sm.mk a k t g e l d b).v:=by rw[Sm.v_eq];rfl
theorem qkw{c:Cb}(ok:c.Ok){w n:Nat}{h:c.H}{F D Y:Nat→Prop}{S:St}{v:V}{ts:List Sct}(hk:Wk c w n h F D S)(hY:∀l,Y l→l<S.length)(hsc:ScR c.toPw (fun l=>l=w∨F l∨Y l) S v ts)(s:Sco)(hc:c.cn (enters c.toPw h s) (n+s.length)):∃r U,qtB c w n h F D Y ts s S r U:=by
 obtain ⟨F',D',U0,q1,q2,q3,q4⟩:=ok.real hk.st (enters c.toPw h s);obtain ⟨⟨ka,kb,kd⟩,st⟩:=hk.call0 ok q1 q2 q3 q4;have hlt:=(qtV.1 ka).1;have hl0:=st.k.len;obtain ⟨t,ht⟩:∃t:Sct,t=s.zipIdx.map fun e=>(e.1.1,e.1.2,U0.length+3+e.2):=⟨_,rfl⟩
 have hts:t.sco=s:=by
  rw[ht];unfold Sct.sco;rw[qvS];apply qu8;intro i;simp only[quf,List.getElem?_zipIdx];cases s[i]? <;> rfl
 have htl:=Sco.len_of hts;obtain ⟨os,hos⟩:∃os:List Ob,os=[.arr [.agg [v]] 1 1,.map (t.map entT) (qf8 t.length) t.length,.arr [.agg [.ptr U0.length 0 0 1,.map (U0.length+1)]] 2 1]++s.map fun e=>plc e.1 e.2 (c.f e.2 e.1):=⟨_,rfl⟩
 have g:∀j o,os[j]?=some o→(U0.set w (wkr c (n+t.length))++os)[U0.length+j]?=some o:=fun j o ho=>by
  rw[qtW (by simp),List.length_set,qvi];exact ho
 have kk:Wk c w (n+t.length) (enters c.toPw h s) F' D' (U0.set w (wkr c (n+t.length))++os):=Wk.push ok ⟨qtZ hlt,ok.fr (M:=fun l=>l=w) q1 ((Kp.refl _ _).set _ (.inl rfl)) (fun l hl _=>by rw[hl];exact ⟨kb,kd⟩),kb,kd,by rw[htl];exact hc⟩ _;have ss:Stp w F D S F' D' (U0.set w (wkr c (n+t.length))++os):=⟨(st.k.set _ (.inl (.inl rfl))).push _,st.gF,st.gD⟩
 have out:∀l,U0.length≤l→¬ (l=w∨F' l∨Y l):=by
  rintro l hl (rfl|hf|hy)
  ·omega
  ·have:=ok.lt q1 l (.inl hf);omega
  ·have:=hY l hy;omega
 refine ⟨.ptr (U0.length+2) 0 0 1,_,t,F',D',hts,kk,ss,U0.length+2,U0.length,U0.length+1,v,_,_,rfl,⟨out _ (by omega),out _ (qt1 _),out _ (by omega)⟩,g 2 _ (by rw[hos];rfl),g 0 _ (by rw[hos];rfl),g 1 _ (by rw[hos];rfl),fun e he=>?_,hsc.mono (ss.k.mono fun l _ hh=>hh.imp id .inl) fun l hh=>?_⟩
 ·obtain ⟨j,hj⟩:=qux he;rw[ht,quf,List.getElem?_zipIdx] at hj
  cases hs:s[j]? with
  | none=>rw[hs] at hj;simp at hj
  | some x=>
   rw[hs] at hj;simp at hj;subst hj;refine ⟨out _ (by simp only;omega),?_⟩;rw[show U0.length+3+j=U0.length+(3+j) by omega];refine g _ _ ?_;rw[hos,qtW (by simp)];simp[hs]
 ·rcases hh with hh|hh|hh
  ·exact .inl (.inl hh)
  ·exact (q3 l hh).imp (fun a=>.inr (.inl a)) id
  ·exact .inl (.inr (.inr hh))
theorem qiq(c:Cb)(ok:c.Ok)(w:Nat):∀(m:Nat) (s:Sm),(Pa.st s).size≤m→m≤4000→s.ok→P186 c w s
 | 0,s,hx,_,_=>by have:=(Pa.st s).size_pos;omega
 | m+1,s,hx,hm,hok=>by
  intro n h F D S v ts hk hsc hin hn;have O:=(Sm.ok_iff s).1 hok;have hsz:=Sm.size_parts s
  have IHb:∀y,y∈s.body→P186 c w y:=fun y hy=>qiq c ok w m y (by
   obtain ⟨i,hi⟩:=qux (quz (f:=Pa.st) hy);have:=qaW hi;omega) (by omega) (Sm.okL_mem O.body.2 y hy)
  have IHd:∀d,d∈s.decls→∀y,y∈d.body→P186 c w y:=fun d hd y hy=>qiq c ok w m y (by
   obtain ⟨i,hi⟩:=qux (quz (f:=Pa.de) hd);have h1:=qaW hi;have h2:=De.size_parts d;obtain ⟨j,hj⟩:=qux (quz (f:=Pa.st) hy);have:=qaW hj;omega) (by omega) (Sm.okL_mem ((De.ok_iff d).1 (De.okL_mem O.decls.2 d hd)).body.2 y hy)
  have hokd:∀d,d∈s.decls→∀y,y∈d.body→y.ok:=fun d hd y hy=>Sm.okL_mem ((De.ok_iff d).1 (De.okL_mem O.decls.2 d hd)).body.2 y hy
  have hokb:∀y,y∈s.body→y.ok:=fun y hy=>Sm.okL_mem O.body.2 y hy
  have hbl:s.body.length≤4000:=by have:=qaP (s.body.map Pa.st);rw[qt2] at this;omega
  refine Spec.ib func186 ok186 ?_;obtain ⟨S1,hS1⟩:∃S1:St,S1=S++[.arr [s.v] 8 1,.arr [smZ] 8 1]:=⟨_,rfl⟩
  have B1:Bx c w n h F D S s F D S1:=by
   rw[hS1];exact ⟨by rw[qtW (by omega)];simp,by rw[qtW (by omega)];simp,hk.push ok _,(Stp.refl _ _ _ _).push _,hk.out ok (by omega),hk.out ok (by omega)⟩
  simp[c186,boxS,ldS,qac];rw[←hS1];refine qan (ql9 c ok w s.labels (by omega) n h F D S1 v ts hin B1.wk (hsc.step B1.st)) ?_;intro r U hU;obtain ⟨rfl,F2,D2,B2⟩:=B1.call hU;clear hU;obtain ⟨y1,hy1⟩:∃y1:Sm,y1=.mk (rets c.toPw (Scx ts) s.labels) s.kind s.text s.targets s.exps s.elems s.decls s.body:=⟨_,rfl⟩;have B3:=B2.put ok y1;simp[stS,ldS,B2.b0,qc3,qac];rw[smV,←hy1];generalize U.set S.length (.arr [y1.v] 8 1)=U3 at B3 ⊢;have e1:y1.targets=s.targets:=by rw[hy1];rfl
  simp[ldS,B3.b0,e1];refine qan (qgx c ok w s.targets (by omega) n h F2 D2 U3 v ts true B3.wk (hsc.step B3.st)) ?_;intro r U hU;obtain ⟨rfl,F3,D3,B4⟩:=B3.call hU;clear hU;obtain ⟨y2,hy2⟩:∃y2:Sm,y2=.mk (rets c.toPw (Scx ts) s.labels) s.kind s.text (Ex.wrl c.toPw (Scx ts) true s.targets) s.exps s.elems s.decls s.body:=⟨_,rfl⟩;have B5:=B4.put ok y2;simp[stS,ldS,B4.b0,qc3,qac];have hy2v:V.agg [.sl false (y1.labels.map .str),.int .i64 y1.kind,.str y1.text,.sl false ((Ex.wrl c.toPw (Scx ts) true s.targets).map Ex.v),.sl false (y1.exps.map Ex.v),.sl false (y1.elems.map El.v),.sl false (y1.decls.map De.v),.sl false (y1.body.map Sm.v)]=y2.v:=by rw[smV,hy1,hy2];rfl
  rw[hy2v];generalize U.set S.length (.arr [y2.v] 8 1)=U5 at B5 ⊢;have k2:y2.kind=s.kind:=by rw[hy2];rfl
  have x2:y2.exps=s.exps:=by rw[hy2];rfl
  have l2:y2.elems=s.elems:=by rw[hy2];rfl
  have d2:y2.decls=s.decls:=by rw[hy2];rfl
  have t2:y2.body=s.body:=by rw[hy2];rfl
  obtain ⟨h2,hh2⟩:∃h2,h2=Ex.hsl c.toPw (Scx ts) true h s.targets:=⟨_,rfl⟩;rw[←hh2] at B5;have hw:=Sm.wr_eq c.toPw (Scx ts) n s;have hh:=Sm.hs_eq c.toPw (Scx ts) n h s;have hnb:=Sm.nb_eq s;rw[←hh2] at hh;simp[ldS,B5.b0,k2];by_cases h7:s.kind=7
  ·rw[if_pos h7] at hw hh hnb;have hbn:=qa3 (qag s.decls s.body) n 0;simp[h7,ldS,B5.b0];refine qan (qrh y2 U5) ?_;rintro r U6 ⟨rfl,hU6⟩;have B6:=B5.push ok [.arr [y2.v] 8 1];rw[←hU6] at B6;have c6:U6[U5.length]?=some (.arr [y2.v] 8 1):=by rw[hU6];simp
   have hy:=qnj y2 (by rw[d2];exact O.decls) (by rw[t2];exact O.body) U5.length;rw[d2,t2] at hy;have lS5:=B5.st.k.len;simp;refine qan (qgt c ok w n h2 F3 D3 v ts (qag s.decls s.body) 255 [.ptr U5.length 0 0 1] U5.length _ hy (by simp) U6 B6.wk (Yb S) (by rintro l (rfl|rfl);exact glt B6.b0;exact glt B6.b1) (hsc.yb B6.st) c6 (B5.wk.out ok (qt1 _)) (by omega)) ?_;rintro r U7 ⟨t,F4,D4,hts,k7,s7,sc7⟩;have htl:=Sco.len_of hts;have hscx:Scx (t::ts)=qad (qag s.decls s.body) n::Scx ts:=by simp only[Scx,qud,hts]
   have B7:=B6.step k7 s7;simp[ldS,B7.b0,d2]
   have q:=qkk c ok w s.decls (by omega) IHd hokd _ _ F4 D4 U7 r v (t::ts) ts B7.wk (sc7.sub fun l hl=>hl.imp id .inl) (hsc.step B7.st) (by
    intro d hd;rw[hscx];exact (qdg _ _ _).sub fun x hx=>qvx _ (List.mem_flatMap.2 ⟨d,hd,hx⟩)) (by omega)
   rw[hscx] at q;refine qan q ?_;rintro r2 U8 ⟨rfl,F5,D5,k8,s8⟩;have B8:=B7.step k8 s8;obtain ⟨y3,hy3⟩:∃y3:Sm,y3=.mk (rets c.toPw (Scx ts) s.labels) s.kind s.text (Ex.wrl c.toPw (Scx ts) true s.targets) s.exps s.elems (De.wrl c.toPw (qad (qag s.decls s.body) n::Scx ts) (Scx ts) (n+t.length) s.decls) s.body:=⟨_,rfl⟩;have hy3v:V.agg [.sl false (y2.labels.map .str),.int .i64 y2.kind,.str y2.text,.sl false (y2.targets.map Ex.v),.sl false (y2.exps.map Ex.v),.sl false (y2.elems.map El.v),.sl false ((De.wrl c.toPw (qad (qag s.decls s.body) n::Scx ts) (Scx ts) (n+t.length) s.decls).map De.v),.sl false (y2.body.map Sm.v)]=y3.v:=by rw[smV,hy2,hy3];rfl
   have B9:=B8.put ok y3
   have sc9:ScR c.toPw (fun l=>l=w∨F5 l) (U8.set S.length (.arr [y3.v] 8 1)) r (t::ts):=by
    refine (sc7.mono ((s8.k.mono fun l _ hh=>hh.imp id .inl).set _ (.inl (.inr (.inr (.inl rfl))))) (X':=fun l=>l=w∨F5 l) fun l hh=>?_);rcases hh with hh|hh
    ·exact .inl (.inl hh)
    ·exact (s8.gF l hh).imp (fun a=>.inr (.inl a)) id
   simp[stS,B8.b0,qc3,qac];rw[hy3v];generalize U8.set S.length (.arr [y3.v] 8 1)=U9 at B9 sc9 ⊢;have b3:y3.body=s.body:=by rw[hy3];rfl
   simp[ldS,B9.b0,b3];have q3:=qeF c ok w s.body false IHb hbl _ _ F5 D5 U9 r (t::ts) B9.wk sc9 (by rw[hscx];exact (qdg _ _ _).sub fun x hx=>qvt _ hx) (by omega);rw[hscx] at q3;refine qan q3 ?_;rintro r3 U10 ⟨rfl,F6,D6,k10,s10⟩;have B10:=B9.step k10 s10;obtain ⟨y4,hy4⟩:∃y4:Sm,y4=.mk (rets c.toPw (Scx ts) s.labels) s.kind s.text (Ex.wrl c.toPw (Scx ts) true s.targets) s.exps s.elems (De.wrl c.toPw (qad (qag s.decls s.body) n::Scx ts) (Scx ts) (n+t.length) s.decls) (Sm.wrl c.toPw (qad (qag s.decls s.body) n::Scx ts) (n+t.length+De.nbl s.decls) s.body):=⟨_,rfl⟩;have hy4v:V.agg [.sl false (y3.labels.map .str),.int .i64 y3.kind,.str y3.text,.sl false (y3.targets.map Ex.v),.sl false (y3.exps.map Ex.v),.sl false (y3.elems.map El.v),.sl false (y3.decls.map De.v),.sl false ((Sm.wrl c.toPw (qad (qag s.decls s.body) n::Scx ts) (n+t.length+De.nbl s.decls) s.body).map Sm.v)]=y4.v:=by rw[smV,hy3,hy4];rfl
   have B11:=B10.put ok y4;simp[stS,B10.b0,qc3,qac];rw[hy4v];generalize U10.set S.length (.arr [y4.v] 8 1)=U11 at B11 ⊢;have k4:y4.kind=7:=by rw[hy4,←h7];rfl
   simp[ldS,B11.b0,B11.b1,k4,stS,qac];rw[hw,hh,hnb,←htl,←hy4,show n+((qad (qag s.decls s.body) 0).length+De.nbl s.decls+Sm.nbl s.body)=n+t.length+De.nbl s.decls+Sm.nbl s.body by omega];exact B11.fin ok rfl
  by_cases h8:s.kind=8
  ·rw[if_neg h7,if_pos h8] at hw hh hnb;have hbn:=qa3 (qak s.body) n 0;simp[h8,ldS,B5.b0,t2];refine qcw (qh4 s.body false U5) ⟨_,_,rfl,rfl⟩ ?_;rintro r U6 ⟨rfl,hU6⟩;have B6:=B5.push ok [.arr [.sl false (s.body.map Sm.v)] 1 1];rw[←hU6] at B6;have c6:U6[U5.length]?=some (.arr [.sl false (s.body.map Sm.v)] 1 1):=by rw[hU6];simp
   have hy:=qfv s.body O.body.1 O.body.2 U5.length;have hYb:∀l,Yb S l→l<U6.length:=by rintro l (rfl|rfl);exact glt B6.b0;exact glt B6.b1
   have scY:=hsc.yb B6.st;have lS5:=B5.st.k.len;simp;refine qcw (qgt c ok w n h2 F3 D3 v ts (qak s.body) 187 [.ptr U5.length 0 0 1] U5.length _ hy (by simp) U6 B6.wk (Yb S) hYb scY c6 (B5.wk.out ok (qt1 _)) (by omega)) (qkw ok B6.wk hYb scY _ (qsz ok _ B6.wk.cn)) ?_;rintro r U7 ⟨t,F4,D4,hts,k7,s7,sc7⟩;have htl:=Sco.len_of hts;have hscx:Scx (t::ts)=qad (qak s.body) n::Scx ts:=by simp only[Scx,qud,hts]
   have B7:=B6.step k7 s7;simp;have q3:=qeF c ok w s.body false IHb hbl _ _ F4 D4 U7 r (t::ts) B7.wk (sc7.sub fun l hl=>hl.imp id .inl) (by rw[hscx];exact qdg _ _ _) (by omega);rw[hscx] at q3;refine qcw q3 (Wd.some ok B7.wk _ (qsV ok _ _ B7.wk.cn) _) ?_;rintro r3 U10 ⟨rfl,F6,D6,k10,s10⟩;have B10:=B7.step k10 s10;obtain ⟨y4,hy4⟩:∃y4:Sm,y4=.mk (rets c.toPw (Scx ts) s.labels) s.kind s.text (Ex.wrl c.toPw (Scx ts) true s.targets) s.exps s.elems s.decls (Sm.wrl c.toPw (qad (qak s.body) n::Scx ts) (n+t.length) s.body):=⟨_,rfl⟩;have hy4v:V.agg [.sl false (y2.labels.map .str),.int .i64 y2.kind,.str y2.text,.sl false (y2.targets.map Ex.v),.sl false (y2.exps.map Ex.v),.sl false (y2.elems.map El.v),.sl false (y2.decls.map De.v),.sl false ((Sm.wrl c.toPw (qad (qak s.body) n::Scx ts) (n+t.length) s.body).map Sm.v)]=y4.v:=by rw[smV,hy2,hy4];rfl
   have B11:=B10.put ok y4;simp[stS,B10.b0,qc3,qac,dend,qbj,qbw,ldS,B5.b0,B6.b0,B7.b0,t2];rw[hy4v];generalize U10.set S.length (.arr [y4.v] 8 1)=U11 at B11 ⊢;have k4:y4.kind=8:=by rw[hy4,←h8];rfl
   simp[ldS,B11.b0,B11.b1,k4,stS,qac];rw[hw,hh,hnb,←htl,←hy4,show n+((qad (qak s.body) 0).length+Sm.nbl s.body)=n+t.length+Sm.nbl s.body by omega];exact B11.fin ok rfl
  rw[if_neg h7,if_neg h8] at hw hh hnb;simp[h7,h8,ldS,B5.b0,x2];refine qan (qgx c ok w s.exps (by omega) n h2 F3 D3 U5 v ts false B5.wk (hsc.step B5.st)) ?_;rintro r U6 ⟨rfl,F4,D4,k6,s6⟩;have B6:=B5.step k6 s6;obtain ⟨y3,hy3⟩:∃y3:Sm,y3=.mk (rets c.toPw (Scx ts) s.labels) s.kind s.text (Ex.wrl c.toPw (Scx ts) true s.targets) (Ex.wrl c.toPw (Scx ts) false s.exps) s.elems s.decls s.body:=⟨_,rfl⟩;have hy3v:V.agg [.sl false (y2.labels.map .str),.int .i64 y2.kind,.str y2.text,.sl false (y2.targets.map Ex.v),.sl false ((Ex.wrl c.toPw (Scx ts) false s.exps).map Ex.v),.sl false (y2.elems.map El.v),.sl false (y2.decls.map De.v),.sl false (y2.body.map Sm.v)]=y3.v:=by rw[smV,hy2,hy3];rfl
  have B7:=B6.put ok y3;simp[stS,B6.b0,qc3,qac];rw[hy3v];generalize U6.set S.length (.arr [y3.v] 8 1)=U7 at B7 ⊢;have l3:y3.elems=s.elems:=by rw[hy3];rfl
  simp[ldS,B7.b0,l3];refine qan (qpS c ok w s.elems (by omega) n _ F4 D4 U7 v ts B7.wk (hsc.step B7.st)) ?_;rintro r U8 ⟨rfl,F5,D5,k8,s8⟩;have B8:=B7.step k8 s8;obtain ⟨y4,hy4⟩:∃y4:Sm,y4=.mk (rets c.toPw (Scx ts) s.labels) s.kind s.text (Ex.wrl c.toPw (Scx ts) true s.targets) (Ex.wrl c.toPw (Scx ts) false s.exps) (El.wrl c.toPw (Scx ts) s.elems) s.decls s.body:=⟨_,rfl⟩;have hy4v:V.agg [.sl false (y3.labels.map .str),.int .i64 y3.kind,.str y3.text,.sl false (y3.targets.map Ex.v),.sl false (y3.exps.map Ex.v),.sl false ((El.wrl c.toPw (Scx ts) s.elems).map El.v),.sl false (y3.decls.map De.v),.sl false (y3.body.map Sm.v)]=y4.v:=by rw[smV,hy3,hy4];rfl
  have B9:=B8.put ok y4;simp[stS,B8.b0,qc3,qac];rw[hy4v];generalize U8.set S.length (.arr [y4.v] 8 1)=U9 at B9 ⊢;have b4:y4.body=s.body:=by rw[hy4];rfl
  simp[ldS,B9.b0,b4];refine qan (qet c ok w s.body false IHb hbl hokb n _ F5 D5 U9 v ts B9.wk (hsc.step B9.st) (by omega)) ?_;rintro r U10 ⟨rfl,F6,D6,k10,s10⟩;have B10:=B9.step k10 s10;obtain ⟨y5,hy5⟩:∃y5:Sm,y5=.mk (rets c.toPw (Scx ts) s.labels) s.kind s.text (Ex.wrl c.toPw (Scx ts) true s.targets) (Ex.wrl c.toPw (Scx ts) false s.exps) (El.wrl c.toPw (Scx ts) s.elems) s.decls (Sm.wr1 c.toPw (Scx ts) n s.body):=⟨_,rfl⟩;have hy5v:V.agg [.sl false (y4.labels.map .str),.int .i64 y4.kind,.str y4.text,.sl false (y4.targets.map Ex.v),.sl false (y4.exps.map Ex.v),.sl false (y4.elems.map El.v),.sl false (y4.decls.map De.v),.sl false ((Sm.wr1 c.toPw (Scx ts) n s.body).map Sm.v)]=y5.v:=by rw[smV,hy4,hy5];rfl
  have B11:=B10.put ok y5;simp[stS,B10.b0,qc3,qac];rw[hy5v];generalize U10.set S.length (.arr [y5.v] 8 1)=U11 at B11 ⊢;have k5:y5.kind=s.kind:=by rw[hy5];rfl
  have t5:y5.text=s.text:=by rw[hy5];rfl
  obtain ⟨h3,hh3⟩:∃h3,h3=Sm.hs1 c.toPw (Scx ts) n (El.hsl c.toPw (Scx ts) (Ex.hsl c.toPw (Scx ts) false h2 s.exps) s.elems) s.body:=⟨_,rfl⟩;rw[←hh3] at B11 hh;rw[hw,hh,hnb];by_cases h6:s.kind=6
  case neg=>
   simp[ldS,B11.b0,B11.b1,k5,h6,stS,qac];have e1:c.toPw.clE (Scx ts) s.kind s.text=s.text:=by unfold Pw.clE;rw[if_neg h6]
   have e2:c.toPw.clS (Scx ts) s.kind h3 s.text=h3:=by unfold Pw.clS;rw[if_neg h6]
   rw[e1,e2,←hy5];exact B11.fin ok rfl
  have tw:=B11.wk.tw;unfold wkr at tw;have smT:∀z:ByteArray,V.agg [.sl false (y5.labels.map .str),.int .i64 y5.kind,.str z,.sl false (y5.targets.map Ex.v),.sl false (y5.exps.map Ex.v),.sl false (y5.elems.map El.v),.sl false (y5.decls.map De.v),.sl false (y5.body.map Sm.v)]=(Sm.mk (rets c.toPw (Scx ts) s.labels) s.kind z (Ex.wrl c.toPw (Scx ts) true s.targets) (Ex.wrl c.toPw (Scx ts) false s.exps) (El.wrl c.toPw (Scx ts) s.elems) s.decls (Sm.wr1 c.toPw (Scx ts) n s.body)).v:=fun z=>by rw[smV,hy5];rfl
  have hsc3:=hsc.step B11.st
  cases hcl:c.cl with
  | none=>
   have hfc:c.fc=.nilfn:=by have:=ok.cl;rw[hcl] at this;exact this
   rw[hfc] at tw;have hfind:=qfK hsc3 s.text;have e2:c.toPw.clS (Scx ts) s.kind h3 s.text=h3:=by unfold Pw.clS;rw[hcl];simp
   have e1:c.toPw.clE (Scx ts) s.kind s.text=retp c.toPw (Scx ts) s.text:=by unfold Pw.clE;rw[if_pos h6,hcl]
   rw[e1,e2];have hat:=qeM ts s.text
   cases hf:fnd ts s.text with
   | none=>
    have hr:retp c.toPw (Scx ts) s.text=s.text:=by unfold retp;rw[hat,hf];rfl
    have hv:fndV ts s.text=.nilp:=by simp[fndV,hf]
    rw[hv] at hfind;rw[hr,←hy5];simp[ldS,B11.b0,k5,t5,h6,qbb,tw,eqOk,eqV];refine qai hfind ?_;simp[ldS,B11.b0,B11.b1,eqOk,eqV,stS,qac];exact B11.fin ok rfl
   | some q=>
    have hr:retp c.toPw (Scx ts) s.text=c.f q.1 s.text:=by unfold retp;rw[hat,hf];rfl
    have hv:fndV ts s.text=.ptr q.2 0 0 1:=by simp[fndV,hf]
    rw[hv] at hfind;have hq:=hsc3.fnd_get hf;unfold plc at hq;rw[hr];simp[ldS,B11.b0,k5,t5,h6,qbb,tw,eqOk,eqV];refine qai hfind ?_;obtain ⟨z,hz⟩:∃z:Sm,z=.mk (rets c.toPw (Scx ts) s.labels) s.kind (c.f q.1 s.text) (Ex.wrl c.toPw (Scx ts) true s.targets) (Ex.wrl c.toPw (Scx ts) false s.exps) (El.wrl c.toPw (Scx ts) s.elems) s.decls (Sm.wr1 c.toPw (Scx ts) n s.body):=⟨_,rfl⟩;have hzv:=smT (c.f q.1 s.text);rw[←hz] at hzv;have B12:=B11.put ok z;rw[h6] at hz;rw[←hz];rw[k5,h6] at hzv;simp[ldS,B11.b0,eqOk,eqV,qbb,hq,stS,qc3,qac,k5,h6];rw[hzv];generalize U11.set S.length (.arr [z.v] 8 1)=U12 at B12 ⊢;simp[ldS,B12.b0,stS,B12.b1,qac];exact B12.fin ok rfl
  | some g=>
   have hcb:=ok.cl;rw[hcl] at hcb;obtain ⟨kf,cs,hfc,hsp⟩:=hcb;rw[hfc] at tw;have e2:c.toPw.clS (Scx ts) s.kind h3 s.text=c.clH h3 s.text (Scx ts):=by unfold Pw.clS;rw[if_pos h6,hcl]
   have e1:c.toPw.clE (Scx ts) s.kind s.text=g s.text (Scx ts):=by unfold Pw.clE;rw[if_pos h6,hcl]
   rw[e1,e2];have hsp3:=hsp U11 s.text v ts w h3 F6 D6 hsc3 B11.wk.st;obtain ⟨Fi,Di,Ui,hi⟩:=ok.real B11.wk.st (c.clH h3 s.text (Scx ts));simp[ldS,B11.b0,k5,t5,h6,qbb,tw,eqOk,eqV];refine qcw hsp3 ⟨_,Ui,rfl,Fi,Di,hi⟩ ?_;rintro r U12 ⟨rfl,F7,D7,q1,q2,q3,q4⟩;obtain ⟨k12,s12⟩:=B11.wk.call ok (ok.cc _ _ B11.wk.cn) q1 q2 q3 q4;have B12:=B11.step k12 s12;obtain ⟨z,hz⟩:∃z:Sm,z=.mk (rets c.toPw (Scx ts) s.labels) s.kind (g s.text (Scx ts)) (Ex.wrl c.toPw (Scx ts) true s.targets) (Ex.wrl c.toPw (Scx ts) false s.exps) (El.wrl c.toPw (Scx ts) s.elems) s.decls (Sm.wr1 c.toPw (Scx ts) n s.body):=⟨_,rfl⟩;have hzv:=smT (g s.text (Scx ts));rw[←hz] at hzv;have B13:=B12.put ok z;rw[h6] at hz;rw[←hz];rw[k5,h6] at hzv;simp[stS,B12.b0,qc3,qac,dend,qbj,k5,h6];rw[hzv];generalize U12.set S.length (.arr [z.v] 8 1)=U13 at B13 ⊢;simp[ldS,B13.b0,stS,B13.b1,qac];exact B13.fin ok rfl
theorem qpa(c:Cb)(ok:c.Ok)(w:Nat)(s:Sm)(hs:s.ok)(hsz:(Pa.st s).size≤4000)(h:c.H)(F D:Nat→Prop)(S:St)(hk:Wk c w 0 h F D S)(hn:Sm.nb1 [s]≤c.lim):
  Spec prog 62 [.ptr w 0 0 1,s.v] S (fun r U=>Wd c w (Sm.nb1 [s]) (s.wholeH c.toPw h) F D S (s.wholeR c.toPw).v r U):=by
 refine Spec.ib func62 ok62 ?_;obtain ⟨S1,hS1⟩:∃S1:St,S1=S++[.arr [s.v] 8 1,.arr [smZ] 8 1]:=⟨_,rfl⟩;have b0:S1[S.length]?=some (.arr [s.v] 8 1):=by rw[hS1,qtW (by omega)];simp
 have b1:S1[S.length+1]?=some (.arr [smZ] 8 1):=by rw[hS1,qtW (by omega)];simp
 have k1:Wk c w 0 h F D S1:=by rw[hS1];exact hk.push ok _
 have s1:Stp w F D S F D S1:=by rw[hS1];exact (Stp.refl _ _ _ _).push _
 have hf:=Sm.fits1 s;simp[c62,boxS,ldS,qac,Sm.fits1];rw[←hS1];have q:=qet c ok w [s] true (fun x hx=>by simp at hx;subst hx;exact qiq c ok w 4000 x hsz (by omega) hs) (by simp) (fun x hx=>by simp at hx;subst hx;exact hs) 0 h F D S1 .nilp [] k1 rfl (by omega);simp only[qud,qvB,quZ] at q;refine qan q ?_;rintro r U ⟨rfl,F2,D2,k2,s2⟩;have o1:Off w F D (S.length+1):=hk.out ok (by omega);have l1:S.length+1<S1.length:=glt b1;have c1:=s2.at o1 b1;have p1:=o1.next l1 s2;have he:Sm.wr1 c.toPw (Scx []) 0 [s]=[s.wholeR c.toPw]:=by simp only[Sm.wr1,Sm.wholeR,Scx,qvB,quZ]
 have he2:Sm.hs1 c.toPw (Scx []) 0 h [s]=s.wholeH c.toPw h:=by simp only[Sm.hs1,Sm.wholeH,Scx,qvB,quZ]
 rw[he2] at k2;rw[he];simp only[qud,qvB];have hia:iaS U 8 (.sl false [(s.wholeR c.toPw).v]) 0=some (.iptr (s.wholeR c.toPw).v 0):=by simp[iaS]
 simp[hia,ldS,stS,c1,qac];have hz:(U.set (S.length+1) (.arr [(s.wholeR c.toPw).v] 8 1))[S.length+1]?=some (.arr [(s.wholeR c.toPw).v] 8 1):=qtZ (glt c1);exact qaj (vs:=[(s.wholeR c.toPw).v]) (by simp[rvs,ldS,hz]) ⟨rfl,F2,D2,k2.set ok _ p1.1 p1.2.1 p1.2.2,(s1.trans s2).set _ (by omega)⟩
def numF(k:Nat):ByteArray:=⟨⟨[35]⟩⟩++⟨(dig k).toArray⟩
section
variable {p:Pw} {f:Nat→ByteArray} (hn:p.nm=none) (hc:p.cl=none) (hf:∀k x,p.f k x=f k)
include hf
include hn
end
theorem Sm.valid_block{nm:ByteArray→Bool}{l:List ByteArray}{k:Int}{t:ByteArray}{g e:List Ex}{h:List El}{d:List De}{b:List Sm}(v:(Pa.st (.mk l k t g e h d b)).valid nm=true):
  (k=7→g=[]∧e=[]∧h=[])∧(k=8→g=[]∧e=[]∧h=[]∧d=[])∧(k≠7→k≠8→d=[]):=by
 have h1:=(Pa.valid_iff.1 v).1;simp only[Pa.vOwn,Sm.vOwn,qt3] at h1;have h1:=h1.2;refine ⟨?_,?_,?_⟩
 ·rintro rfl;simp at h1;simp[h1]
 ·rintro rfl;simp at h1;simp[h1]
 ·intro h7 h8
  repeat' split at h1
  all_goals first
   | (simp at h1;done)
   | (simp at h1;simp[h1];done)
   | omega
theorem De.valid_proc{nm:ByteArray→Bool}{k:Int}{o:Bool}{t:Int}{n:List ByteArray}{e:List Ex}{f:List Fo}{b:List Sm}(v:(Pa.de (.mk k o t n e f b)).valid nm=true):
  (k=4→e=[])∧(k≠4→f=[]∧b=[]):=by
 have h1:=(Pa.valid_iff.1 v).1;simp only[Pa.vOwn,De.vOwn,qt3] at h1;have h1:=h1.2;refine ⟨?_,?_⟩
 ·rintro rfl;simp at h1;simp[h1]
 ·intro h4
  repeat' split at h1
  all_goals first
   | (simp at h1;done)
   | (simp at h1;simp[h1];done)
   | omega
section
variable {p:Pw} {f:Nat→ByteArray} (hn:p.nm=none) (hc:p.cl=none) (hf:∀k x,p.f k x=f k) {nm:ByteArray→Bool}
include hn hc hf
end
structure RwOk(r:Rp)(g:Nat→ByteArray)(N:Nat):Prop where
 fresh:∀k,k<N→r.fresh[k]?=some (g k)
 fro:r.fro=[]
section
variable {r:Rp} {g:Nat→ByteArray} {N:Nat} (ok:RwOk r g N) {nm:ByteArray→Bool}
include ok
end
theorem qlN{l:List ByteArray}(h:okS l){f:ByteArray→ByteArray}(hf:∀x,x∈l→(f x).size≤B50):okS (l.map f):=by
 refine ⟨by rw[qt2];exact h.1,fun s hs=>?_⟩;obtain ⟨x,hx,rfl⟩:=qul.1 hs;exact hf x hx
section
variable {f:Nat→ByteArray} {N:Nat} (hf:∀k,k<N→(f k).size≤B50)
include hf
end
theorem qlg{l:List Ex}{deep n:Int}(h:n≤0):Ex.leftL l deep n≤0:=by
 unfold Ex.leftL;split
 ·omega
 ·rw[Ex.leftG_neg l deep n h];exact h
mutual
theorem Ex.left_size:∀(x:Ex) (deep n:Int),0<x.left deep n→x.left deep n=n - (Pa.ex x).size
 | .mk k o n' m e t a,deep,n,h=>by
  have hsz:(Pa.ex (.mk k o n' m e t a)).size=1+qaB (a.map Pa.ex):=by rw[Pa.size_eq];rfl
  rw[Ex.left] at h ⊢;split at h
  ·omega
  ·rename_i hd;rw[if_neg hd,Ex.leftG_size a _ _ h];omega
theorem Ex.leftG_size:∀(l:List Ex) (deep n:Int),0<Ex.leftG l deep n→Ex.leftG l deep n=n - qaB (l.map Pa.ex)
 | [],_,n,h=>by simp[Ex.leftG]
 | x::l,deep,n,h=>by
  rw[Ex.leftG] at h ⊢;split at h
  ·rename_i h0;rw[if_pos h0];by_cases hx:0<x.left deep n
   ·rw[Ex.leftG_size l _ _ h,Ex.left_size x deep n hx,qud,sizes_cons];omega
   ·rw[Ex.leftG_neg l _ _ (by omega)] at h;omega
  ·omega
end
theorem Ex.leftL_size(l:List Ex)(deep n:Int)(h:0<Ex.leftL l deep n):Ex.leftL l deep n=n - qaB (l.map Pa.ex):=by
 unfold Ex.leftL at h ⊢;split at h
 ·omega
 ·rename_i hd;rw[if_neg hd,Ex.leftG_size l _ _ h]
theorem El.leftG_size:∀(l:List El) (deep n:Int),0<El.leftG l deep n→El.leftG l deep n=n - qaB (l.map Pa.el)
 | [],_,n,h=>by simp[El.leftG]
 | x::l,deep,n,h=>by
  have hsz:(Pa.el x).size=1+qaB (x.exps.map Pa.ex):=by rw[Pa.size_eq];rfl
  rw[El.leftG] at h ⊢;split at h
  ·rename_i h0;rw[if_pos h0];by_cases hx:0<Ex.leftL x.exps (deep+1) (n - 1)
   ·rw[El.leftG_size l _ _ h,Ex.leftL_size _ _ _ hx,qud,sizes_cons];omega
   ·have:El.leftG l deep (Ex.leftL x.exps (deep+1) (n - 1))=Ex.leftL x.exps (deep+1) (n - 1):=by cases l <;> simp[El.leftG,hx]
    rw[this] at h;omega
  ·omega
theorem El.leftG_neg'{l:List El}{deep n:Int}(h:¬ 0<n):El.leftG l deep n=n:=by cases l <;> simp[El.leftG,h]
theorem De.leftG_neg'{l:List De}{deep n:Int}(h:¬ 0<n):De.leftG l deep n=n:=by cases l <;> simp[De.leftG,h]
theorem Sm.leftG_neg'{l:List Sm}{deep n:Int}(h:¬ 0<n):Sm.leftG l deep n=n:=by cases l <;> simp[Sm.leftG,h]
theorem Sm.size_parts'(s:Sm):(Pa.st s).size=1+s.labels.length+qaB (s.targets.map Pa.ex)+qaB (s.exps.map Pa.ex)+qaB (s.elems.map Pa.el)+qaB (s.decls.map Pa.de)+qaB (s.body.map Pa.st):=by
 rw[Pa.size_eq];simp only[Pa.own,Pa.kids,qa2];omega
theorem De.size_parts'(d:De):(Pa.de d).size=1+d.names.length+d.formals.length+qaB (d.exps.map Pa.ex)+qaB (d.body.map Pa.st):=by
 rw[Pa.size_eq];simp only[Pa.own,Pa.kids,qa2];omega
mutual
theorem Sm.left_size:∀(s:Sm) (deep n:Int),0<s.left deep n→s.left deep n=n - (Pa.st s).size
 | .mk l k t g e f d b,deep,n,h=>by
  have hsz:=Sm.size_parts' (.mk l k t g e f d b);simp only[Sm.labels,Sm.targets,Sm.exps,Sm.elems,Sm.decls,Sm.body] at hsz;rw[Sm.left] at h ⊢;split at h
  ·omega
  ·rename_i hd;rw[if_neg hd];have h5:=Sm.leftG_size b _ _ h
   have h4:0<De.leftG d deep (El.leftG f deep (Ex.leftL g (deep+1) (Ex.leftL e (deep+1) (n - 1 - l.length)))):=by
    by_cases hh:0<De.leftG d deep (El.leftG f deep (Ex.leftL g (deep+1) (Ex.leftL e (deep+1) (n - 1 - l.length))))
    ·exact hh
    ·rw[Sm.leftG_neg' hh] at h;exact h
   have h4':=De.leftG_size d _ _ h4
   have h3:0<El.leftG f deep (Ex.leftL g (deep+1) (Ex.leftL e (deep+1) (n - 1 - l.length))):=by
    by_cases hh:0<El.leftG f deep (Ex.leftL g (deep+1) (Ex.leftL e (deep+1) (n - 1 - l.length)))
    ·exact hh
    ·rw[De.leftG_neg' hh] at h4;exact h4
   have h3':=El.leftG_size f _ _ h3
   have h2:0<Ex.leftL g (deep+1) (Ex.leftL e (deep+1) (n - 1 - l.length)):=by
    by_cases hh:0<Ex.leftL g (deep+1) (Ex.leftL e (deep+1) (n - 1 - l.length))
    ·exact hh
    ·rw[El.leftG_neg' hh] at h3;exact h3
   have h2':=Ex.leftL_size g _ _ h2
   have h1:0<Ex.leftL e (deep+1) (n - 1 - l.length):=by
    by_cases hh:0<Ex.leftL e (deep+1) (n - 1 - l.length)
    ·exact hh
    ·have:=qlg (l:=g) (deep:=deep+1) (n:=Ex.leftL e (deep+1) (n - 1 - l.length)) (by omega);omega
   have h1':=Ex.leftL_size e _ _ h1;omega
theorem De.left_size:∀(s:De) (deep n:Int),0<s.left deep n→s.left deep n=n - (Pa.de s).size
 | .mk k o t nm e f b,deep,n,h=>by
  have hsz:=De.size_parts' (.mk k o t nm e f b);simp only[De.names,De.formals,De.exps,De.body] at hsz;rw[De.left] at h ⊢;have h5:=Sm.leftG_size b _ _ h
  have h1:0<Ex.leftL e (deep+1) (n - 1 - nm.length - f.length):=by
   by_cases hh:0<Ex.leftL e (deep+1) (n - 1 - nm.length - f.length)
   ·exact hh
   ·rw[Sm.leftG_neg' hh] at h;exact h
  have h1':=Ex.leftL_size e _ _ h1;omega
theorem De.leftG_size:∀(l:List De) (deep n:Int),0<De.leftG l deep n→De.leftG l deep n=n - qaB (l.map Pa.de)
 | [],_,n,h=>by simp[De.leftG]
 | x::l,deep,n,h=>by
  rw[De.leftG] at h ⊢;split at h
  ·rename_i h0;rw[if_pos h0];by_cases hx:0<x.left deep n
   ·rw[De.leftG_size l _ _ h,De.left_size x deep n hx,qud,sizes_cons];omega
   ·rw[De.leftG_neg' hx] at h;omega
  ·omega
theorem Sm.leftG_size:∀(l:List Sm) (deep n:Int),0<Sm.leftG l deep n→Sm.leftG l deep n=n - qaB (l.map Pa.st)
 | [],_,n,h=>by simp[Sm.leftG]
 | x::l,deep,n,h=>by
  rw[Sm.leftG] at h ⊢;split at h
  ·rename_i h0;rw[if_pos h0];by_cases hx:0<x.left deep n
   ·rw[Sm.leftG_size l _ _ h,Sm.left_size x deep n hx,qud,sizes_cons];omega
   ·rw[Sm.leftG_neg' hx] at h;omega
  ·omega
end
theorem qem:∀(l:List ByteArray) (s:Sco) (n:Nat),(binds l s n).length≤s.length+l.length
 | [],s,n=>by simp[binds]
 | x::l,s,n=>by
  simp only[binds];split
  ·have:=qem l s n;simp;omega
  ·have:=qem l (s++[(x,n)]) (n+1);simp at this ⊢;omega
theorem qe5(l:List ByteArray)(n:Nat):(qad l n).length≤l.length:=by have:=qem l [] n;simpa[qad] using this
theorem qgs(x:Sm)(l:List Sm):(qak (x::l)).length=x.labels.length+(qak l).length:=by simp[qak]
theorem qhf(x:De)(l:List De):((x::l).flatMap De.names).length=x.names.length+(l.flatMap De.names).length:=by simp
mutual
theorem Sm.nb_size:∀s:Sm,s.labels.length+s.nb≤(Pa.st s).size
 | .mk l k t g e f d b=>by
  have hsz:=Sm.size_parts' (.mk l k t g e f d b);have hd:=De.nbl_size d;have hb:=Sm.nbl_size b;have h1:=Sm.nb1_size b;simp only[Sm.labels,Sm.targets,Sm.exps,Sm.elems,Sm.decls,Sm.body] at hsz ⊢;rw[Sm.nb];split
  ·have:=qe5 (qag d b) 0;unfold qag at this ⊢;rw[qub] at this;omega
  ·split
   ·have:=qe5 (qak b) 0;omega
   ·omega
theorem De.nb_size:∀s:De,s.names.length+s.nb≤(Pa.de s).size
 | .mk k o t nm e f b=>by
  have hsz:=De.size_parts' (.mk k o t nm e f b);have h1:=Sm.nb1_size b;simp only[De.names,De.formals,De.exps,De.body] at hsz ⊢;rw[De.nb];split
  ·have:=qe5 (f.map Fo.name) 0;rw[qt2] at this;omega
  ·omega
theorem De.nbl_size:∀l:List De,(l.flatMap De.names).length+De.nbl l≤qaB (l.map Pa.de)
 | []=>by simp[De.nbl]
 | x::l=>by
  have h1:=De.nb_size x;have h2:=De.nbl_size l;rw[qhf,De.nbl,qud,sizes_cons];omega
theorem Sm.nbl_size:∀l:List Sm,(qak l).length+Sm.nbl l≤qaB (l.map Pa.st)
 | []=>by simp[Sm.nbl,qak]
 | x::l=>by
  have h1:=Sm.nb_size x;have h2:=Sm.nbl_size l;rw[qgs,Sm.nbl,qud,sizes_cons];omega
theorem Sm.nb1_size:∀l:List Sm,Sm.nb1 l≤qaB (l.map Pa.st)
 | []=>by simp[Sm.nb1]
 | x::l=>by
  have h1:=Sm.nb_size x;have h2:=Sm.nb1_size l;have h3:=qe5 x.labels 0;rw[Sm.nb1,qud,sizes_cons];omega
end
end Go.Proofs.YtbifpocccfkhhaaGreatDoor
