/- The rules for code, and a function's contract out of its body. -/
import Derived.Test.YtbifpocccfkhhaaGreatDoorLae
import Derived.Scope
import Derived.RangeFuncLeaves
import Derived.RangeFuncRecord
namespace Go.Proofs.YtbifpocccfkhhaaGreatDoor
open Go

inductive C' where
  | skip
  | reg (ops : List O')
  | draw (ds : List D) (zs : List V)
  | drawl (ds : List D) (zs : List V) (o : O')
  | seq (a b : C')
  | cond (c : Opd) (a b : C')
  | block (id : Nat) (c : C')
  | scope (c : C')
  | loop (c : C')
  | exit (id : Nat)
  | ret
  | bad
  | rf (g : Opd) (ps : List Nat) (asg body : Code) (ca cb : C') (N : Nat) (ts : List Nat)
  deriving Inhabited

def C'.noRf : C' → Bool
  | .seq a b | .cond _ a b => a.noRf && b.noRf
  | .block _ c | .scope c | .loop c => c.noRf
  | .rf .. => false
  | _ => true

def C'.uses : C' → List Nat
  | .reg ops => ops.flatMap O'.tmps
  | .draw ds _ => ds.flatMap fun d => d.o.tmps
  | .drawl ds _ o => (ds.flatMap fun d => d.o.tmps) ++ o.tmps
  | .seq a b => a.uses ++ b.uses
  | .cond c a b => c.tmps ++ a.uses ++ b.uses
  | .block _ c | .scope c | .loop c => c.uses
  | _ => []

/-- An operation that may do one of several things. -/
def openK : K → Bool
  | .call .. => true
  | .ex (.nxt _) => true
  | .ex (.eqn ..) => true
  | _ => false
def drawLast (P : Program) (N : Nat) (ops : Array Oper) : Option (List D × List V × O') :=
  match ops.back? with
  | none => none
  | some o => if lastAll ops = true then match compOper P N ops o with
      | some o' => if openK o'.k = true then (compDraw P N ops.pop).map fun p => (p.1, p.2, o') else none
      | none => none
    else none
theorem drawLast_spec {P : Program} {N : Nat} {ops : Array Oper} {ds : List D} {zs : List V} {o' : O'} (h : drawLast P N ops = some (ds, zs, o')) : ∃ ops' o, ops = ops'.push o ∧ lastAll (ops'.push o) = true ∧ compOper P N (ops'.push o) o = some o' ∧ compDraw P N ops' = some (ds, zs) := by
  unfold drawLast at h
  split at h
  · cases h
  · rename_i o ho
    split at h <;> try cases h
    rename_i hl
    split at h <;> try cases h
    rename_i o1 hc
    split at h <;> try cases h
    cases hp : compDraw P N ops.pop with
    | none => rw [hp] at h; cases h
    | some p =>
      rw [hp] at h
      simp only [Option.map_some, Option.some.injEq, Prod.mk.injEq] at h
      obtain ⟨h1, h2, h3⟩ := h
      have hpush : ops = ops.pop.push o := by
        obtain ⟨l⟩ := ops
        rw [Array.back?_eq_getElem?] at ho
        obtain ⟨hlt, ho⟩ := Array.getElem?_eq_some_iff.1 ho
        apply Array.ext_getElem?
        intro j
        rw [Array.getElem?_push]
        simp only [Array.size_pop]
        split
        · rename_i hj; subst hj; rw [← ho]; simp
        · rename_i hj
          rw [Array.getElem?_pop]
          split
          · rfl
          · rw [Array.getElem?_eq_none (by omega)]
      refine ⟨ops.pop, o, hpush, by rw [← hpush]; exact hl, by rw [← hpush, ← h3]; exact hc, by rw [hp, ← h1, ← h2]⟩

def comp (P : Program) (N : Nat) : Code → Option C'
  | .skip => some .skip
  | .label _ => some .skip
  | .region _ ops draw => if draw then match drawLast P N ops with
      | some p => some (.drawl p.1 p.2.1 p.2.2)
      | none => match compDraw P N ops with
        | some p => some (.draw p.1 p.2)
        | none => some .bad
    else match ops.toList.mapM (compOper P N ops) with
      | some l => some (.reg l)
      | none => some .bad
  | .seq a b => match comp P N a, comp P N b with
    | some a, some b => some (.seq a b)
    | _, _ => none
  | .cond c a b => match compOpd c, comp P N a, comp P N b with
    | some c, some a, some b => some (.cond c a b)
    | _, _, _ => none
  | .block id c => (comp P N c).map (.block id)
  | .scope c => (comp P N c).map .scope
  | .loop c => (comp P N c).map .loop
  | .exit id => some (.exit id)
  | .ret => some .ret
  | .rangeFunc f ps asg body => match compOpd f, comp P N asg, comp P N body with
    | some g, some ca, some cb => if (ca.noRf && cb.noRf && ps.toList.all fun p => decide (p < N)) = true then some (.rf g ps.toList asg body ca cb N (dedup (ca.uses ++ cb.uses))) else some .bad
    | _, _, _ => some .bad
  | _ => some .bad

def pthen (N : Env → St → Prop) (Q : Post) : Post
  | .normal, e, S => N e S
  | x, e, S => Q x e S
def pblock (id : Nat) (Q : Post) : Post
  | .exit id', e, S => if id' = id then Q .normal e S else Q (.exit id') e S
  | x, e, S => Q x e S

def pscope (Q : Post) : Post
  | .goto _, _, _ => False
  | x, e, S => Q x e S

theorem stepR_scope {P : Program} {b : Frame} {a : Act} {k : List Item} {cs : List Frame} {w : World} {c : Code} : step P (lone (b.atR a (.code (.scope c) :: k)) cs w) = .next (lone (b.atR a (.code c :: .inScope c :: k)) cs w) :=
  step_lone_go (by simp [stepG, stepG.exec, Frame.atR])
theorem stepR_inScope {P : Program} {b : Frame} {a : Act} {k : List Item} {cs : List Frame} {w : World} {c : Code} : step P (lone (b.atR a (.inScope c :: k)) cs w) = .next (lone (b.atR a k) cs w) :=
  step_lone_go (by simp [stepG, stepG.exec, Frame.atR])

theorem wpIn_scope {F : Fence} {n : Nat} {P : Program} {c : Code} {Q : Exit → Act → World → Prop} {a : Act} {w : World} (h : c.wpIn F n P (Exit.noGoto Q) a w) : (Code.scope c).wpIn F n P Q a w := by
  intro b k cs hro hb hr
  have h0 : (lone (b.atR a (.code (.scope c) :: k)) cs w).fenced P F := fenced_calm hb hr rfl
  obtain ⟨e, a₁, w₁, hq, harr⟩ := h b (.inScope c :: k) cs hro hb hr
  cases e with
  | normal => exact ⟨.normal, a₁, w₁, hq, .head h0 stepR_scope (StepsIn.trans harr (.one (fenced_calm hb hr rfl) stepR_inScope))⟩
  | exit id' =>
    have hx : exitTo id' (.inScope c :: k) = exitTo id' k := by simp [exitTo]
    exact ⟨.exit id', a₁, w₁, hq, fun k' hk => .head h0 stepR_scope (harr.1 k' (by rw [hx]; exact hk)),
      fun hr' hk => let ⟨k₁, h1, h2⟩ := harr.2 hr' (by rw [hx]; exact hk); ⟨k₁, h1, .head h0 stepR_scope h2⟩⟩
  | goto l => exact hq.elim
  | ret => exact ⟨_, a₁, w₁, hq, .of_steps (.one h0 stepR_scope) harr⟩
  | panic ch => exact ⟨_, a₁, w₁, hq, .of_steps (.one h0 stepR_scope) harr⟩
  | outgrown => exact ⟨_, a₁, w₁, hq, .of_steps (.one h0 stepR_scope) harr⟩

def WP (P : Program) : C' → Post → Env → St → Prop
  | .skip, Q, e, S => Q .normal e S
  | .reg ops, Q, e, S => wops P ops (Q .normal) e S
  | .draw ds zs, Q, e, S => dwp P S.length ds (dend S.length ds (Q .normal)) e (S ++ phs zs) [S ++ phs zs]
  | .drawl ds zs o, Q, e, S => dwp P S.length ds (dend S.length ds (lastPost P o Q .normal)) e (S ++ phs zs) [S ++ phs zs]
  | .seq a b, Q, e, S => WP P a (pthen (WP P b Q) Q) e S
  | .cond c a b, Q, e, S => match c.ev e with
    | some (.bool t) => (t = true → WP P a Q e S) ∧ (t = false → WP P b Q e S)
    | _ => False
  | .block id c, Q, e, S => WP P c (pblock id Q) e S
  | .scope c, Q, e, S => WP P c (pscope Q) e S
  | .loop c, Q, e, S => ∃ (I : Nat → Env → St → Prop) (n : Nat), (∃ e', Env.sub e' e ∧ I n e' S) ∧ ∀ n e S, I n e S → WP P c (pthen (fun e S => ∃ n', n' < n ∧ ∃ e', Env.sub e' e ∧ I n' e' S) Q) e S
  | .exit id, Q, e, S => Q (.exit id) e S
  | .ret, Q, e, S => Q .ret e S
  | .bad, _, _, _ => False
  | .rf g ps asg body ca cb N ts, Q, e, S => comp P N asg = some ca → comp P N body = some cb → match g.ev e with
    | some (.fn (.func k) fs cs) => ∃ R, Spec P k (fs ++ [.yld S.length] ++ cs) (S ++ [.loop ⟨.ready, none, ps, asg, body, e.keep ts, N⟩]) R ∧ ∀ r S', R r S' → ∃ i, S'[S.length]? = some (.loop i) ∧ i.st ≠ .busy ∧
      match i.pend with
      | none => Q .normal e (S'.set S.length (.loop { i with st := .exhausted }))
      | some .ret => Q .ret e (S'.set S.length (.loop { i with st := .exhausted }))
      | some (.exit id) => Q (.exit id) e (S'.set S.length (.loop { i with st := .exhausted }))
      | some _ => False
    | _ => False


theorem Rel.sub {N n0 m0 : Nat} {E : En} {e e' : Env} {S : St} {a : Act} {w : World} (h : Rel N n0 m0 E e S a w) (hs : Env.sub e' e) : Rel N n0 m0 E e' S a w :=
  ⟨fun t v hv => h.tmps t v (hs t v hv), h.size, h.defers, h.base, h.sr⟩

theorem Up.then {N n0 m0 : Nat} {E : En} {S : St} {w : World} {M : Env → St → Prop} {Q : Post} {x : Exit} {a : Act} {w' : World} {next : Act → World → Prop} (h : Up N n0 m0 E S w (pthen M Q) x a w')
    (hn : ∀ E' e' S', Rel N n0 m0 E' e' S' a w' → Ext n0 E S w E' S' w' → M e' S' → next a w') : Exit.then next (Up N n0 m0 E S w Q) x a w' := by
  obtain ⟨E', e', S', r, ex, q⟩ := h
  cases x <;> first | exact hn E' e' S' r ex q | exact ⟨E', e', S', r, ex, q⟩

theorem Ext.push {E : En} {S : St} {w : World} (h : SR E S w) (o : Obj) : SR E S { w with heap := w.heap.push o } ∧ ∀ n, Ext n E S w E S { w with heap := w.heap.push o } := by
  refine ⟨⟨h.gl.old (fun _ _ _ h => h) (fun b _ _ _ hb _ => push_old (heap_lt hb)), fun b o' c hc => ?_, fun l ob hl => ?_, h.dom, h.apart, fun b hb => ?_, h.inj⟩, fun n => ⟨by simp, fun _ _ _ h => h, fun _ _ _ _ h => h, fun _ _ h => h, fun _ h => .inl h, fun _ _ _ h => .inl h, fun b hb _ => push_old hb, rfl⟩⟩
  · have := h.I b o' c hc
    rw [cell?_heap (push_old (cell?_lt this))]; exact this
  · by_cases hd : ob = .dead
    · subst hd; trivial
    exact (h.obs l ob hl).mono (En.le_refl E) (fun _ _ hx => hx) (fun st x hx => push_old (h.lt _ ⟨l, st, x, ⟨ob, hl, hd⟩, hx, rfl⟩))
  · have := h.lt b hb; simp; omega

/-- The record of a loop changes. -/
theorem SR.loopSet {E : En} {S : St} {w : World} (h : SR E S w) {l : Nat} {i i' : LI} {x : Blk} {r r' : Loop} (hl : S[l]? = some (.loop i)) (hx : E.ρ l 0 = some x) (hr : w.heap[x.b]? = some (.loop r))
    (h1 : r'.state = i'.st) (h2 : r'.pending = i'.pend) (h3 : r'.params.toList = i'.ps) (h4 : r'.assign = i'.asg) (h5 : r'.body = i'.body) (h6 : r'.tmps.size = i'.N) (h7 : Tmps E i'.e r'.tmps) :
    SR E (S.set l (.loop i')) (w.putObj x.b (.loop r')) ∧ Ext S.length E S w E (S.set l (.loop i')) (w.putObj x.b (.loop r')) := by
  have hlt : x.b < w.heap.size := (Array.getElem?_eq_some_iff.1 hr).1
  have hlive : live S l := ⟨_, hl, by simp⟩
  refine h.change (E' := E) (w' := w.putObj x.b (.loop r')) hlive rfl (En.le_refl E) (fun _ _ _ => rfl) (fun st z hz => .inl ⟨st, z, hz, rfl⟩) (by simp [World.putObj]) (fun b hb' hne => ?_) rfl ⟨x, r', hx, ?_, h1, h2, h3, h4, h5, h6, h7⟩
  · show (w.heap.setIfInBounds x.b _)[b]? = _
    rw [Array.getElem?_setIfInBounds_ne (hne 0 x hx)]
  · show (w.heap.setIfInBounds x.b _)[x.b]? = _
    simp [hlt]

theorem rf_sound {P : Program} {N n0 m0 n : Nat} {f : Operand} {g : Opd} {ps : Array Tmp} {asg body : Code} {ts : List Nat} {Q : Post} {E : En} {e : Env} {S : St} {a : Act} {w : World} (hg : compOpd f = some g)
    (h : Unit → match g.ev e with
    | some (.fn (.func k) fs cs) => ∃ R, Spec P k (fs ++ [.yld S.length] ++ cs) (S ++ [.loop ⟨.ready, none, ps.toList, asg, body, e.keep ts, N⟩]) R ∧ ∀ r S', R r S' → ∃ i, S'[S.length]? = some (.loop i) ∧ i.st ≠ .busy ∧
      match i.pend with
      | none => Q .normal e (S'.set S.length (.loop { i with st := .exhausted }))
      | some .ret => Q .ret e (S'.set S.length (.loop { i with st := .exhausted }))
      | some (.exit id) => Q (.exit id) e (S'.set S.length (.loop { i with st := .exhausted }))
      | some _ => False
    | _ => False) (hr : Rel N n0 m0 E e S a w) : (Code.rangeFunc f ps asg body).wpIn (fence none) n P (Up N n0 m0 E S w Q) a w := by
  have h := h ()
  split at h <;> try exact h.elim
  rename_i k fs cs hv
  obtain ⟨R, hspec, hnext⟩ := h
  have hfv := opd_sim hr.tmps hg hv
  generalize hu : a.eval f = u at hfv
  obtain ⟨us, ws, rfl, b1, b2, b3, b4⟩ : ∃ us ws, u = .func (.func k) us ws ∧ fs.length = us.size ∧ cs.length = ws.size ∧ (∀ (i : Nat) (v : V) (u : Value), fs[i]? = some v → us[i]? = some u → VR E v u) ∧ (∀ (i : Nat) (v : V) (u : Value), cs[i]? = some v → ws[i]? = some u → VR E v u) := by
    cases hfv with
    | fn h1 h2 g1 g2 => exact ⟨_, _, rfl, h1, h2, g1, g2⟩
  refine wpIn_rangeFunc fun fn _ => ?_
  -- the records
  let w1 : World := { w with heap := w.heap.push (.deferred (some [])) }
  obtain ⟨p1, p2⟩ := Ext.push hr.sr (.deferred (some []))
  let rec0 : Loop := { state := .ready, pending := none, fn, tmps := a.tmps, params := ps, assign := asg, body, defers := w.heap.size }
  let w2 : World := { w1 with heap := w1.heap.push (.loop rec0) }
  have hsz1 : w1.heap.size = w.heap.size + 1 := by simp [w1]
  have hno : E.ρ S.length 0 = none := by
    cases hx : E.ρ S.length 0 with
    | none => rfl
    | some y => exact absurd (hr.sr.dom _ _ _ hx) (by omega)
  obtain ⟨q1, q2⟩ := p1.new (o := .loop rec0) (ob := .loop ⟨.ready, none, ps.toList, asg, body, e.keep ts, N⟩) (st := 0) (N := 0) (sz := 0) ⟨⟨w1.heap.size, 0, 0⟩, rec0, at_same, push_new, rfl, rfl, rfl, rfl, rfl, hr.size, (hr.tmps.keep ts).mono (at_le hno)⟩
  have hle : E.le (E.at S.length 0 ⟨w1.heap.size, 0, 0⟩) := at_le hno
  have hext : Ext S.length E S w (E.at S.length 0 ⟨w1.heap.size, 0, 0⟩) _ w2 := (p2 S.length).trans q2
  -- the mark
  have hmarks : Marks m0 (E.at S.length 0 ⟨w1.heap.size, 0, 0⟩) (S ++ [.loop ⟨.ready, none, ps.toList, asg, body, e.keep ts, N⟩]) w2 ([{ target := .collected w.heap.size, args := #[] }] ++ a.defers) := by
    have hm := Marks.step hext hr.defers
    refine ⟨hm.1, ⟨w.heap.size, rfl, hr.defers.1, ?_, fun ho => ?_, fun d' hd' he => ?_⟩, hm.2⟩
    · show (w1.heap.push _)[w.heap.size]? = _
      rw [Array.getElem?_push, if_neg (by omega)]
      simp [w1]
    · rcases q2.own _ ho with ho | ho
      · exact absurd (hr.sr.lt _ ho) (by omega)
      · exact absurd (show w1.heap.size ≤ w.heap.size from ho) (by omega)
    · have : ∀ (l : List Deferred), MarksL m0 E S w l → ∀ d, d ∈ l → ∃ r, d.target = .collected r ∧ r < w.heap.size := by
        intro l
        induction l with
        | nil => intro _ d hd; cases hd
        | cons d0 l ih =>
          rintro ⟨⟨r, k1, _, k3, _⟩, hl⟩ d hd
          rcases List.mem_cons.1 hd with rfl | hd
          · exact ⟨r, k1, (Array.getElem?_eq_some_iff.1 k3).1⟩
          · exact ih hl d hd
      obtain ⟨r, k1, k2⟩ := this _ hr.defers.2 d' hd'
      rw [he] at k1; cases k1
      omega
  have hyld : VR (E.at S.length 0 ⟨w1.heap.size, 0, 0⟩) (.yld S.length) (.func (.yield (w.heap.size + 1)) #[] #[]) := by
    have := VR.yld (E := E.at S.length 0 ⟨w1.heap.size, 0, 0⟩) (l := S.length) (x := ⟨w1.heap.size, 0, 0⟩) at_same
    rw [hsz1] at this ⊢
    exact this
  refine ⟨w.heap.size + 1, [{ target := .collected w.heap.size, args := #[] }], w2, { target := .fn (.func k) ws, args := us ++ #[.func (.yield (w.heap.size + 1)) #[] #[]] }, w2, k, us ++ #[.func (.yield (w.heap.size + 1)) #[] #[]] ++ ws, w2, ?_, ?_, fun _ _ => trivial, ?_, fun hd => by simp [fence, Fence.wide] at hd, ?_⟩
  · exact run_enterLoop_outer fn a.tmps ps asg body
  · simp only [resolve, rangeCall, hu, Deferred.ofValue, Sem.run_bind, Sem.run_pure, Result.andThen]
    rw [show Array.map a.eval #[Operand.const (Value.func (Fn.yield (w.heap.size + 1)) #[] #[])] = #[Value.func (Fn.yield (w.heap.size + 1)) #[] #[]] by simp [Act.eval]]
  · simp only [invoke]
    exact hspec.1 _ w2
  · have hargs : VRs (E.at S.length 0 ⟨w1.heap.size, 0, 0⟩) (fs ++ [.yld S.length] ++ cs) (us ++ #[.func (.yield (w.heap.size + 1)) #[] #[]] ++ ws) := by
      refine ⟨by simp [b1, b2]; omega, fun i v u hv hu => ?_⟩
      rw [List.append_assoc] at hv
      rw [Array.append_assoc] at hu
      by_cases hi : i < fs.length
      · rw [List.getElem?_append_left hi] at hv
        rw [Array.getElem?_append_left (by omega)] at hu
        exact (b3 i v u hv hu).mono hle
      · rw [List.getElem?_append_right (by omega)] at hv
        rw [Array.getElem?_append_right (by omega), ← b1] at hu
        by_cases hj : i - fs.length = 0
        · rw [hj] at hv hu
          rw [Array.getElem?_append_left (by simp)] at hu
          simp at hv hu
          subst hv; subst hu; exact hyld
        · rw [List.getElem?_append_right (by simp; omega)] at hv
          rw [Array.getElem?_append_right (by simp; omega)] at hu
          exact (b4 _ v u (by simpa using hv) (by simpa using hu)).mono hle
    refine CallsIn.mono (hspec.2 _ w2 _ (n - 1) q1 hargs) ?_
    rintro ed w3 ⟨uv, r, E', S', rfl, hR, hvr, hsr, hext', hlen⟩
    obtain ⟨i, hi, hst, hq⟩ := hnext r S' hR
    obtain ⟨x, rc, r1, r2, r3, r4, r5, r6, r7, r8, r9⟩ := hsr.obs _ _ hi
    have hx : x.b = w.heap.size + 1 := by
      have hlt : S.length < (S ++ [Ob.loop ⟨.ready, none, ps.toList, asg, body, e.keep ts, N⟩]).length := by simp
      have := hext'.ρ S.length 0 _ hlt at_same
      rw [r1] at this; cases this
      exact hsz1
    rw [hx] at r2
    have hnb : rc.state ≠ .busy := by rw [r3]; exact hst
    obtain ⟨s1, s2⟩ := hsr.loopSet (i' := { i with st := .exhausted }) (r' := { rc with state := .exhausted }) hi r1 (by rw [hx]; exact r2) rfl r4 r5 r6 r7 r8 r9
    rw [hx] at s1 s2
    have hbase : S.length ≤ S'.length := by simp at hlen; omega
    have hrel : Rel N n0 m0 E' e (S'.set S.length (.loop { i with st := .exhausted })) { a with defers := [{ target := .collected w.heap.size, args := #[] }] ++ a.defers } (w3.putObj (w.heap.size + 1) (.loop { rc with state := .exhausted })) := by
      refine ⟨(hr.tmps.mono hle).mono (hext'.le q1), hr.size, ?_, by simp; exact Nat.le_trans hr.base hbase, s1⟩
      exact Marks.step s2 (Marks.step hext' hmarks)
    have hxx : Ext n0 E S w E' (S'.set S.length (.loop { i with st := .exhausted })) (w3.putObj (w.heap.size + 1) (.loop { rc with state := .exhausted })) :=
      (hext.less hr.base).trans ((hext'.less (Nat.le_trans hr.base (by simp))).trans (s2.less (Nat.le_trans hr.base hbase)))
    refine ⟨rc.pending, _, run_endLoop r2 hnb, ?_⟩
    generalize hpd : rc.pending = pd
    rw [hpd] at r4
    have hrel' := hrel
    have hxx' := hxx
    rw [hpd] at hrel' hxx'
    split at hq
    · rename_i hp; rw [hp] at r4; subst r4; exact ⟨E', e, _, hrel', hxx', hq⟩
    · rename_i hp; rw [hp] at r4; subst r4; exact wpIn_ret ⟨E', e, _, hrel', hxx', hq⟩
    · rename_i id hp; rw [hp] at r4; subst r4; exact wpIn_exit ⟨E', e, _, hrel', hxx', hq⟩
    · exact hq.elim

theorem WP_sound {P : Program} {N n0 m0 : Nat} {ro : Option Nat} {n : Nat} : ∀ (c : Code) (c' : C') (Q : Post) (E : En) (e : Env) (S : St) (a : Act) (w : World),
    comp P N c = some c' → Rel N n0 m0 E e S a w → WP P c' Q e S → (ro = none ∨ c'.noRf = true) → c.wpIn (fence ro) n P (Up N n0 m0 E S w Q) a w := by
  intro c
  induction c with
  | skip =>
    intro c' Q E e S a w hc hr h hro
    simp only [comp] at hc; cases hc
    exact wpIn_skip ⟨E, e, S, hr, Ext.refl _ _ _ _, h⟩
  | label l =>
    intro c' Q E e S a w hc hr h hro
    simp only [comp] at hc; cases hc
    exact wpIn_label ⟨E, e, S, hr, Ext.refl _ _ _ _, h⟩
  | region id ops draw =>
    intro c' Q E e S a w hc hr h hro
    simp only [comp] at hc
    split at hc
    · rename_i hd
      subst hd
      cases hd : drawLast P N ops with
      | some p =>
        obtain ⟨ds, zs, o'⟩ := p
        rw [hd] at hc; cases hc
        obtain ⟨ops', o, rfl, h1, h2, h3⟩ := drawLast_spec hd
        exact drawl_sound h3 h1 h2 hr h
      | none =>
      rw [hd] at hc
      simp only at hc
      cases hl : compDraw P N ops with
      | none => rw [hl] at hc; cases hc; exact h.elim
      | some p =>
        rw [hl] at hc; cases hc
        exact draw_sound hl hr h
    · rename_i hd
      have : draw = false := by simpa using hd
      subst this
      cases hl : ops.toList.mapM (compOper P N ops) with
      | none => rw [hl] at hc; cases hc; exact h.elim
      | some l' =>
        rw [hl] at hc; cases hc
        exact wpIn_region_list (wops_sound ops.toList l' E e S a w hl hr h)
  | seq x y ihx ihy =>
    intro c' Q E e S a w hc hr h hro
    simp only [comp] at hc
    split at hc <;> cases hc
    rename_i x' y' hx hy
    refine wpIn_seq (wpIn_mono (ihx x' _ E e S a w hx hr h (hro.imp (fun h => h) fun h => by simp [C'.noRf] at h; exact h.1)) fun ex a' w' hq => ?_)
    exact hq.then fun E' e' S' r x q => wpIn_mono (ihy y' Q E' e' S' a' w' hy r q (hro.imp (fun h => h) fun h => by simp [C'.noRf] at h; exact h.2)) fun ex a'' w'' g => g.back x
  | cond c x y ihx ihy =>
    intro c' Q E e S a w hc hr h hro
    simp only [comp] at hc
    split at hc <;> cases hc
    rename_i c' x' y' hcc hx hy
    simp only [WP] at h
    split at h
    · rename_i t ht
      have hv := opd_sim hr.tmps hcc ht
      generalize hu : a.eval c = u at hv
      cases hv
      refine wpIn_cond_split hu (fun ht => ihx x' Q E e S a w hx hr (h.1 ht) (hro.imp (fun h => h) fun h => by simp [C'.noRf] at h; exact h.1)) (fun ht => ihy y' Q E e S a w hy hr (h.2 ht) (hro.imp (fun h => h) fun h => by simp [C'.noRf] at h; exact h.2))
    · exact h.elim
  | block id c ih =>
    intro c' Q E e S a w hc hr h hro
    simp only [comp] at hc
    cases hx : comp P N c with
    | none => rw [hx] at hc; cases hc
    | some x' =>
      rw [hx] at hc; cases hc
      refine wpIn_block (wpIn_mono (ih x' _ E e S a w hx hr h (hro.imp (fun h => h) fun h => by simp [C'.noRf] at h; exact h)) fun ex a' w' hq => ?_)
      obtain ⟨E', e', S', r, x, q⟩ := hq
      cases ex <;> simp only [Exit.inBlock, pblock] at q ⊢ <;> try exact ⟨E', e', S', r, x, q⟩
      split
      · rename_i hid; rw [if_pos hid] at q; exact ⟨E', e', S', r, x, q⟩
      · rename_i hid; rw [if_neg hid] at q; exact ⟨E', e', S', r, x, q⟩
  | scope c ih =>
    intro c' Q E e S a w hc hr h hro
    simp only [comp] at hc
    cases hx : comp P N c with
    | none => rw [hx] at hc; cases hc
    | some x' =>
      rw [hx] at hc; cases hc
      refine wpIn_scope (wpIn_mono (ih x' _ E e S a w hx hr h (hro.imp (fun h => h) fun h => by simp [C'.noRf] at h; exact h)) fun ex a' w' hq => ?_)
      obtain ⟨E', e', S', r, x, q⟩ := hq
      cases ex <;> simp only [Exit.noGoto, pscope] at q ⊢ <;> exact ⟨E', e', S', r, x, q⟩
  | loop c ih =>
    intro c' Q E e S a w hc hr h hro
    simp only [comp] at hc
    cases hx : comp P N c with
    | none => rw [hx] at hc; cases hc
    | some x' =>
      rw [hx] at hc; cases hc
      obtain ⟨I, k, ⟨e0, hsub, h0⟩, hround⟩ := h
      let J : Nat → Act → World → Prop := fun k a' w' => ∃ E' e' S', Rel N n0 m0 E' e' S' a' w' ∧ Ext n0 E S w E' S' w' ∧ I k e' S'
      refine wpIn_loop (fun a' w' => ∃ k, J k a' w') (fun a' w' => leastOf fun k => J k a' w') ⟨k, E, e0, S, hr.sub hsub, Ext.refl _ _ _ _, h0⟩ ?_
      intro a1 w1 hI
      obtain ⟨E1, e1, S1, r1, x1, i1⟩ := (leastOf_spec hI).1
      refine wpIn_mono (ih x' _ E1 e1 S1 a1 w1 hx r1 (hround _ e1 S1 i1) (hro.imp (fun h => h) fun h => by simp [C'.noRf] at h; exact h)) fun ex a' w' hq => ?_
      obtain ⟨E', e', S', r, x, q⟩ := hq
      cases ex
      case normal =>
        obtain ⟨k', hlt, e2, hs2, hi2⟩ := q
        have hJ : J k' a' w' := ⟨E', e2, S', r.sub hs2, x1.trans x, hi2⟩
        exact ⟨⟨k', hJ⟩, Nat.lt_of_le_of_lt ((leastOf_spec ⟨k', hJ⟩).2 k' hJ) hlt⟩
      all_goals exact ⟨E', e', S', r, x1.trans x, q⟩
  | exit id =>
    intro c' Q E e S a w hc hr h hro
    simp only [comp] at hc; cases hc
    exact wpIn_exit ⟨E, e, S, hr, Ext.refl _ _ _ _, h⟩
  | ret =>
    intro c' Q E e S a w hc hr h hro
    simp only [comp] at hc; cases hc
    exact wpIn_ret ⟨E, e, S, hr, Ext.refl _ _ _ _, h⟩
  | rangeFunc f ps asg body iha ihb =>
    intro c' Q E e S a w hc hr h hro
    simp only [comp] at hc
    split at hc
    case h_2 => cases hc; exact h.elim
    rename_i g ca cb hg hca hcb
    split at hc
    case isFalse => cases hc; exact h.elim
    cases hc
    rename_i hst
    have hro' : ro = none := hro.resolve_right (by simp [C'.noRf])
    subst hro'
    exact rf_sound hg (fun _ => h hca hcb) hr
  | _ => intro c' Q E e S a w hc hr h hro; simp only [comp, Option.some.injEq] at hc; subst hc; exact h.elim

/-! A function. -/
inductive RV where
  | t (t : Nat)
  | cell (t : Nat) (k : Option Nat)
  deriving Inhabited

structure F' where
  N : Nat
  rs : List RV
  body : C'
  deriving Inhabited

def compRV (P : Program) : ResultVar → Option RV
  | .tmp t => some (.t t)
  | .cell a t => (loadKind P t).map (.cell a)

def compF (P : Program) (fn : Func) : Option F' :=
  match fn.body, fn.results.toList.mapM (compRV P) with
  | some c, some rs => if fn.name = "runtime.NumGoroutine" then none else (comp P fn.ntmps c).map fun c' => ⟨fn.ntmps, rs, c'⟩
  | _, _ => none

def rvs (e : Env) (S : St) : List RV → Option (List V)
  | [] => some []
  | .t t :: rs => match e.get t, rvs e S rs with
    | some v, some vs => some (v :: vs)
    | _, _ => none
  | .cell t k :: rs => match e.get t, rvs e S rs with
    | some p, some vs => (ldS S p k).map fun v => v :: vs
    | _, _ => none

def retV : List V → V
  | [v] => v
  | vs => .tup vs

/-- What may be said instead of a value and a store: less of it. -/
def Ghost (n : Nat) (r : V) (S : St) (r' : V) (S' : St) : Prop :=
  ∀ (E : En) (w : World) (u : Value), SR E S w → VR E r u → n ≤ S.length → ∃ E', VR E' r' u ∧ SR E' S' w ∧ Ext n E S w E' S' w ∧ n ≤ S'.length

theorem Ghost.refl (n : Nat) (r : V) (S : St) : Ghost n r S r S := fun E w u hs hr hn => ⟨E, hr, hs, Ext.refl _ _ _ _, hn⟩
theorem Ghost.trans {n : Nat} {r r1 r2 : V} {S S1 S2 : St} (h : Ghost n r S r1 S1) (g : Ghost n r1 S1 r2 S2) : Ghost n r S r2 S2 := fun E w u hs hr hn => by
  obtain ⟨E1, a1, a2, a3, a4⟩ := h E w u hs hr hn
  obtain ⟨E2, b1, b2, b3, b4⟩ := g E1 w u a2 a1 a4
  exact ⟨E2, b1, b2, a3.trans b3, b4⟩
theorem Ghost.cut {n m : Nat} {r : V} {S : St} (hr : r.under m = true) (hS : ∀ o, o ∈ S.take m → o.under m = true) (hn : n ≤ m) (hm : m ≤ S.length) : Ghost n r S r (S.take m) := fun E w u hs hv hn' => by
  obtain ⟨h1, h2⟩ := hs.cut hS hm
  exact ⟨E.cut m, hv.cut hr, h1, h2 n hn, by simp; omega⟩
theorem Ghost.freeze {n l off len st sz wr : Nat} {S : St} {xs : List V} (ho : S[l]? = some (.arr xs sz wr)) (hw : wr ≤ st) (hle : off + len ≤ st) : Ghost n (.arr l off len st) S (.sl false ((xs.drop off).take len)) (S.set l .dead) := fun E w u hs hv hn => by
  obtain ⟨E', h1, h2, _, h3⟩ := hs.freeze ho hw hv hle
  exact ⟨E', h3, h1, h2 n, by simpa using hn⟩

/-- What is asked where a function ends. -/
def endp (rs : List RV) (n : Nat) (R : V → St → Prop) : Post
  | .normal, e, S | .ret, e, S => ∃ vs, rvs e S rs = some vs ∧ ∃ r' S', Ghost n (retV vs) S r' S' ∧ R r' S'
  | _, _, _ => False

def argEnv : Nat → List V → Env
  | _, [] => []
  | k, v :: vs => (k, v) :: argEnv (k + 1) vs

theorem argEnv_get : ∀ (vs : List V) (k t : Nat) (v : V), (argEnv k vs).get t = some v → k ≤ t ∧ vs[t - k]? = some v
  | [], k, t, v, h => by simp [argEnv, Env.get] at h
  | x :: vs, k, t, v, h => by
    simp only [argEnv, Env.get] at h
    split at h
    · rename_i hk; subst hk; cases h; simp
    · obtain ⟨h1, h2⟩ := argEnv_get vs (k + 1) t v h
      refine ⟨by omega, ?_⟩
      obtain ⟨d, rfl⟩ : ∃ d, t = k + 1 + d := ⟨t - (k + 1), by omega⟩
      rw [show k + 1 + d - (k + 1) = d by omega] at h2
      rw [show k + 1 + d - k = d + 1 by omega, List.getElem?_cons_succ]; exact h2

def rdRV (tmps : Array Value) : ResultVar → Sem Value
  | .tmp t => Pure.pure (tmps.getD t undef)
  | .cell a t => do loadVar t (← asAddr (tmps.getD a undef))

theorem rvs_run {P : Program} {E : En} {e : Env} {S : St} {w : World} {tmps : Array Value} (ht : Tmps E e tmps) (hs : SR E S w) : ∀ (l : List ResultVar) (rs : List RV) (vs : List V), l.mapM (compRV P) = some rs → rvs e S rs = some vs →
    ∃ us : List Value, us.length = vs.length ∧ (∀ (i : Nat) (v : V) (u : Value), vs[i]? = some v → us[i]? = some u → VR E v u) ∧
      ∀ acc : Array Value, (l.foldlM (fun (acc : Array Value) r => do let b ← rdRV tmps r; Pure.pure (acc.push b)) acc : Sem (Array Value)).run P w = .ok (acc ++ us.toArray) w
  | [], rs, vs, h1, h2 => by
    simp at h1; subst h1; simp only [rvs] at h2; cases h2
    exact ⟨[], rfl, fun i v u h => by simp at h, fun acc => by simp⟩
  | r :: l, rs, vs, h1, h2 => by
    simp only [List.mapM_cons, Option.bind_eq_bind] at h1
    cases hc : compRV P r with
    | none => rw [hc] at h1; simp at h1
    | some r' =>
      rw [hc] at h1
      cases hl : l.mapM (compRV P) with
      | none => rw [hl] at h1; simp at h1
      | some rs' =>
        rw [hl] at h1
        simp at h1
        subst h1
        have one : ∃ v vs' u, vs = v :: vs' ∧ rvs e S rs' = some vs' ∧ VR E v u ∧ (rdRV tmps r).run P w = .ok u w := by
          cases r with
          | tmp t =>
            simp only [compRV] at hc; cases hc
            simp only [rvs] at h2
            split at h2 <;> cases h2
            rename_i v vs' hv hvs
            obtain ⟨u, hu, hr⟩ := ht _ _ hv
            exact ⟨v, vs', u, rfl, hvs, hr, by simp [rdRV, hu]⟩
          | cell a t =>
            simp only [compRV] at hc
            cases hk : loadKind P t with
            | none => rw [hk] at hc; cases hc
            | some k =>
              rw [hk] at hc; cases hc
              simp only [rvs] at h2
              split at h2 <;> try cases h2
              rename_i p vs' hv hvs
              cases hd : ldS S p k with
              | none => rw [hd] at h2; cases h2
              | some v =>
                rw [hd] at h2; cases h2
                obtain ⟨u, hu, hr⟩ := ht _ _ hv
                obtain ⟨d, h3, h4⟩ := sim_load (P := P) hs hr hk hd
                refine ⟨v, vs', d, rfl, hvs, h4, ?_⟩
                have hg : tmps.getD a undef = u := by simp [hu]
                simp only [rdRV, hg]
                cases hr <;> simp [ldS] at hd <;> simpa [Instr.loadAt, Instr.sureAddr, asAddr, Result.andThen] using h3
        obtain ⟨v, vs', u, rfl, hvs, hr, hrun⟩ := one
        obtain ⟨us, i1, i2, i3⟩ := rvs_run ht hs l rs' vs' hl hvs
        refine ⟨u :: us, by simp [i1], fun i v' u' h h' => ?_, fun acc => ?_⟩
        · cases i with
          | zero => simp at h h'; subst h; subst h'; exact hr
          | succ i => exact i2 i v' u' (by simpa using h) (by simpa using h')
        · simp only [List.foldlM_cons, Sem.run_bind, hrun, Result.andThen, Sem.run_pure]
          rw [i3]; simp

theorem results_run {P : Program} {E : En} {e : Env} {S : St} {w : World} {tmps : Array Value} {fn : Func} {rs : List RV} {vs : List V} (ht : Tmps E e tmps) (hs : SR E S w) (hc : fn.results.toList.mapM (compRV P) = some rs) (h : rvs e S rs = some vs) :
    ∃ u, (results fn tmps).run P w = .ok u w ∧ VR E (retV vs) u := by
  obtain ⟨us, i1, i2, i3⟩ := rvs_run (P := P) ht hs fn.results.toList rs vs hc h
  have hm : (fn.results.mapM (rdRV tmps)).run P w = .ok us.toArray w := by
    rw [Array.mapM_eq_foldlM_push, ← Array.foldlM_toList, i3]; simp
  refine ⟨if h : us.toArray.size = 1 then us.toArray[0] else .tuple us.toArray, ?_, ?_⟩
  · have hres : results fn tmps = (do let vs ← fn.results.mapM (rdRV tmps); Pure.pure (if h : vs.size = 1 then vs[0] else .tuple vs)) := by
      unfold results
      congr 1
    rw [hres]
    simp only [Sem.run_bind, hm, Result.andThen, Sem.run_pure]
  · by_cases h1 : us.length = 1
    · match us, vs, h1, i1 with
      | [u], [v], _, _ => simpa [retV] using i2 0 v u rfl rfl
    · rw [dif_neg (by simpa using h1)]
      have : retV vs = .tup vs := by
        match vs, i1 with
        | [], _ => rfl
        | [v], h => simp at h; exact absurd h h1
        | _ :: _ :: _, _ => rfl
      rw [this]
      exact .tup (by simp [i1]) (fun i v u hv hu => i2 i v u hv (by simpa using hu))

/-- Worlds that are alike but for blocks of our own. -/
def Same (m : Nat) (w w' : World) : Prop := w'.heap.size = w.heap.size ∧ (∀ b, b < m → w'.heap[b]? = w.heap[b]?) ∧ (w'.output, w'.os) = (w.output, w.os)

theorem Ext.same {n : Nat} {E E' : En} {S S' : St} {w w' w'' : World} (h : Ext n E S w E' S' w') (g : Same w.heap.size w' w'') : Ext n E S w E' S' w'' :=
  { h with size := by rw [g.1]; exact h.size, frame := fun b hb hn => (g.2.1 b hb).trans (h.frame b hb hn), out := g.2.2.trans h.out }

theorem SR.shut {E : En} {S : St} {w : World} (h : SR E S w) {r : Nat} {ds : Option (List Deferred)} {o : Obj} (hr : w.heap[r]? = some (.deferred ds)) (hno : ¬ own E S r) : SR E S { w with heap := w.heap.setIfInBounds r o } := by
  have hlt : r < w.heap.size := (Array.getElem?_eq_some_iff.1 hr).1
  have other : ∀ b, b ≠ r → ({ w with heap := w.heap.setIfInBounds r o } : World).heap[b]? = w.heap[b]? := fun b hb => by
    show (w.heap.setIfInBounds r o)[b]? = _
    rw [Array.getElem?_setIfInBounds_ne (Ne.symm hb)]
  refine ⟨h.gl.old (fun _ _ _ h => h) (fun b _ _ _ hb _ => other b fun he => by subst he; rw [hr] at hb; cases hb), fun b o' c hc => ?_, fun l ob hl => ?_, h.dom, h.apart, fun b hb => ?_, h.inj⟩
  · have h1 := h.I b o' c hc
    have hne : b ≠ r := by
      rintro rfl
      unfold World.cell? at h1
      simp [hr] at h1
    rw [cell?_heap (other b hne)]; exact h1
  · by_cases hd : ob = .dead
    · subst hd; trivial
    exact (h.obs l ob hl).mono (En.le_refl E) (fun _ _ hx => hx) fun st x hx => other _ fun he => hno ⟨l, st, x, ⟨ob, hl, hd⟩, hx, he⟩
  · show b < (w.heap.setIfInBounds r o).size
    simp; exact h.lt b hb

theorem leave_marks {P : Program} {n m : Nat} {fn : Func} {tmps : Array Value} {R : Ending → World → Prop} {E : En} {S : St} : ∀ {ds : List Deferred} {w : World}, SR E S w → MarksL m E S w ds →
    (∀ w', SR E S w' → Same m w w' → ∃ v, (results fn tmps).run P w' = .ok v w' ∧ R (.returned v) w') → LeavesInM Fence.wide n P fn tmps R ds .returning w
  | [], w, hs, _, h => h w hs ⟨rfl, fun _ _ => rfl, rfl⟩
  | d :: ds, w, hs, ⟨⟨r, h1, h2, h3, h4, h5⟩, hd⟩, h => by
    refine ⟨by simp, .inl ⟨r, _, h1, run_takeDeferred h3, ?_⟩⟩
    have hs' := hs.shut (o := .deferred none) h3 h4
    refine leave_marks (m := m) hs' ?_ fun w' hs'' hsame => h w' hs'' ?_
    · have hne : ∀ b, b ≠ r → ({ w with heap := w.heap.setIfInBounds r (.deferred none) } : World).heap[b]? = w.heap[b]? := fun b hb => by
        show (w.heap.setIfInBounds r _)[b]? = _
        rw [Array.getElem?_setIfInBounds_ne (Ne.symm hb)]
      have : ∀ (l : List Deferred), (∀ d', d' ∈ l → d'.target ≠ .collected r) → MarksL m E S w l → MarksL m E S { w with heap := w.heap.setIfInBounds r (.deferred none) } l := by
        intro l
        induction l with
        | nil => intro _ _; trivial
        | cons d' l ih =>
          rintro hne' ⟨⟨r', k1, k2, k3, k4, k5⟩, hl⟩
          have hrr : r' ≠ r := fun he => hne' d' (by simp) (by rw [k1, he])
          exact ⟨⟨r', k1, k2, (hne r' hrr).trans k3, k4, k5⟩, ih (fun d'' hd'' => hne' d'' (by simp [hd''])) hl⟩
      exact this ds h5 hd
    · refine ⟨hsame.1.trans (by simp), fun b hb => (hsame.2.1 b hb).trans ?_, hsame.2.2⟩
      show (w.heap.setIfInBounds r _)[b]? = _
      rw [Array.getElem?_setIfInBounds_ne (by omega)]

/-- **A function's contract, out of its body.** -/
theorem Spec.intro {P : Program} {f : FuncId} {fn : Func} {f' : F'} {args : List V} {S : St} {R : V → St → Prop} (hf : P.funcs[f]? = some fn) (hc : compF P fn = some f') (ha : args.length ≤ f'.N)
    (h : WP P f'.body (endp f'.rs S.length R) (argEnv 0 args) S) : Spec P f args S R := by
  unfold compF at hc
  split at hc
  · rename_i c rs hb hrs
    split at hc
    · cases hc
    · rename_i hname
      cases hx : comp P fn.ntmps c with
      | none => rw [hx] at hc; cases hc
      | some c' =>
        rw [hx] at hc; cases hc
        refine ⟨fun as w => ?_, fun E w us n hs hv => ?_⟩
        · simp [callFunc, program, Sem.run, Result.andThen, hf, hname, hb]
        · refine callsIn_of_wp_marks hf hb trivial ?_
          simp only at ha h
          obtain ⟨v1, v2⟩ := hv
          have hrel : Rel fn.ntmps S.length w.heap.size E (argEnv 0 args) S { tmps := us ++ Array.replicate (fn.ntmps - us.size) undef, defers := [] } w := by
            refine ⟨fun t v ht => ?_, by simp; omega, ⟨Nat.le_refl _, trivial⟩, Nat.le_refl _, hs⟩
            obtain ⟨_, h2⟩ := argEnv_get args 0 t v ht
            simp only [Nat.sub_zero] at h2
            have hlt := (List.getElem?_eq_some_iff.1 h2).1
            have hu : us[t]? = some (us[t]'(by omega)) := by simp
            exact ⟨_, by rw [Array.getElem?_append_left (by omega)]; exact hu, v2 t v _ h2 hu⟩
          have hwp := WP_sound (ro := none) (n := n) c c' _ E _ S _ w hx hrel h (.inl rfl)
          refine wpIn_mono (show c.wpIn Fence.wide n P _ _ w from hwp) ?_
          rintro ex a' w' ⟨E', e', S', r, x, q⟩
          cases ex <;> simp only [endp] at q
          all_goals
            obtain ⟨vs, h1, r', S2, hg, hR⟩ := q
            refine leave_marks r.sr r.defers.2 fun w'' hs'' hsame => ?_
            obtain ⟨u, h3, h4⟩ := results_run (P := P) r.tmps hs'' hrs h1
            obtain ⟨E2, g1, g2, g3, g4⟩ := hg E' w'' u hs'' h4 r.base
            exact ⟨u, h3, u, r', E2, S2, rfl, hR, g1, g2, (x.same hsame).trans g3, g4⟩
  · cases hc
end Go.Proofs.YtbifpocccfkhhaaGreatDoor
/- A round of a range over a function, out of its body. -/
namespace Go.Proofs.YtbifpocccfkhhaaGreatDoor
open Go

def putAll : List Nat → List V → Env → Env
  | p :: ps, v :: vs, e => putAll ps vs (e.put (some p) v)
  | _, _, e => e

theorem putAll_sim {E : En} : ∀ (ps : List Nat) (vs : List V) (us : List Value) (e : Env) (T : Array Value), Tmps E e T → (∀ p, p ∈ ps → p < T.size) → vs.length = us.length → (∀ (i : Nat) (v : V) (u : Value), vs[i]? = some v → us[i]? = some u → VR E v u) →
    Tmps E (putAll ps vs e) ((ps.zip us).foldl (fun T p => T.setIfInBounds p.1 p.2) T) ∧ ((ps.zip us).foldl (fun T p => T.setIfInBounds p.1 p.2) T).size = T.size
  | [], vs, us, e, T, h, _, _, _ => by cases vs <;> exact ⟨h, rfl⟩
  | p :: ps, [], us, e, T, h, _, hl, _ => by
    have : us = [] := List.eq_nil_of_length_eq_zero (by simpa using hl.symm)
    subst this
    exact ⟨h, rfl⟩
  | p :: ps, v :: vs, [], e, T, h, _, hl, _ => by simp at hl
  | p :: ps, v :: vs, u :: us, e, T, h, hp, hl, hv => by
    have := putAll_sim ps vs us (e.put (some p) v) (T.setIfInBounds p u) (h.put (hp p (by simp)) (hv 0 v u rfl rfl)) (fun q hq => by simp; exact hp q (by simp [hq])) (by simpa using hl) (fun i v' u' h1 h2 => hv (i + 1) v' u' (by simpa using h1) (by simpa using h2))
    simp only [List.zip_cons_cons, List.foldl_cons, putAll]
    exact ⟨this.1, by rw [this.2]; simp⟩

/-- What is asked at a round's end. -/
def roundP (l : Nat) (R : V → St → Prop) : Post
  | .normal, _, S => ∃ i, S[l]? = some (.loop i) ∧ R (.bool true) (S.set l (.loop { i with st := .ready, pend := none }))
  | .ret, _, S => ∃ i, S[l]? = some (.loop i) ∧ R (.bool false) (S.set l (.loop { i with st := .done, pend := some .ret }))
  | .exit id, _, S => ∃ i, S[l]? = some (.loop i) ∧ R (.bool false) (S.set l (.loop { i with st := .done, pend := some (.exit id) }))
  | _, _, _ => False

/-- What is asked behind the assignments to the loop's left sides. -/
def beginP (P : Program) (l : Nat) (cb : C') (R : V → St → Prop) : Post
  | .normal, e, S => ∃ i, S[l]? = some (.loop i) ∧ i.st = .ready ∧ WP P cb (roundP l R) e (S.set l (.loop { i with st := .busy }))
  | _, _, _ => False

theorem YSpec.intro {P : Program} {l : Nat} {args : List V} {S : St} {R : V → St → Prop} {i : LI} {ca cb : C'} (hl : S[l]? = some (.loop i)) (hca : comp P i.N i.asg = some ca) (hcb : comp P i.N i.body = some cb) (hst : i.st = .ready)
    (na : ca.noRf = true) (nb : cb.noRf = true) (hlen : args.length = i.ps.length) (hps : i.ps.all (fun p => decide (p < i.N)) = true)
    (h : WP P ca (beginP P l cb R) (putAll i.ps args i.e) S) : YSpec P l args S R := by
  intro E w us n x hs hv hx
  obtain ⟨x', rc, r1, r2, r3, r4, r5, r6, r7, r8, r9⟩ := hs.obs _ _ hl
  rw [hx] at r1; cases r1
  obtain ⟨v1, v2⟩ := hv
  refine ⟨rc.fn, _, rc.assign, rc.body, run_yield r2 (by rw [← v1, hlen, ← r5]; simp), ?_⟩
  simp only [List.all_eq_true, decide_eq_true_eq] at hps
  obtain ⟨t1, t2⟩ := putAll_sim i.ps args us.toList i.e rc.tmps r9 (fun p hp => by rw [r8]; exact hps p hp) (by simpa using v1) (fun j v u h1 h2 => v2 j v u h1 (by simpa using h2))
  have hT : (rc.params.zip us).foldl (fun tmps (t, a) => tmps.setIfInBounds t a) rc.tmps = (i.ps.zip us.toList).foldl (fun T p => T.setIfInBounds p.1 p.2) rc.tmps := by
    rw [← Array.foldl_toList, Array.toList_zip, r5]
  rw [hT]
  generalize (i.ps.zip us.toList).foldl (fun T p => T.setIfInBounds p.1 p.2) rc.tmps = T at t1 t2
  rw [r6, r7]
  have hrel : Rel i.N S.length w.heap.size E (putAll i.ps args i.e) S { tmps := T, defers := [] } w := ⟨t1, by rw [t2, r8], ⟨Nat.le_refl _, trivial⟩, Nat.le_refl _, hs⟩
  have hwp := WP_sound (ro := some x.b) (n := n) i.asg ca _ E _ S _ w hca hrel h (.inr na)
  refine roundIn_of_wpIn trivial (wpIn_mono (show i.asg.wpIn (Fence.wide.inRound x.b) n P _ _ w from hwp) ?_)
  rintro ex a' w' ⟨E', e', S', r, xt, q⟩
  cases ex <;> simp only [beginP] at q
  obtain ⟨i', hi', hst', hb⟩ := q
  obtain ⟨x', rc', q1, q2, q3, q4, q5, q6, q7, q8, q9⟩ := r.sr.obs _ _ hi'
  have hlt : l < S.length := (List.getElem?_eq_some_iff.1 hl).1
  have hx' := xt.ρ l 0 _ hlt hx
  rw [hx'] at q1; cases q1
  refine ⟨_, run_beginRound q2 (by rw [q3]; exact hst'), ?_⟩
  obtain ⟨s1, s2⟩ := r.sr.loopSet (i' := { i' with st := .busy }) (r' := { rc' with state := .busy }) hi' hx' q2 rfl q4 q5 q6 q7 q8 q9
  have hrel' : Rel i.N S.length w.heap.size E' e' (S'.set l (.loop { i' with st := .busy })) a' (w'.putObj x.b (.loop { rc' with state := .busy })) :=
    ⟨r.tmps, r.size, Marks.step s2 r.defers, by simp; exact r.base, s1⟩
  have hext : Ext S.length E S w E' (S'.set l (.loop { i' with st := .busy })) (w'.putObj x.b (.loop { rc' with state := .busy })) := xt.trans (s2.less r.base)
  have hwp2 := WP_sound (ro := some x.b) (n := n) i.body cb _ E' _ _ _ _ hcb hrel' hb (.inr nb)
  refine wpIn_mono (show i.body.wpIn (Fence.wide.inRound x.b) n P _ _ _ from hwp2) ?_
  rintro ex a2 w2 ⟨E2, e2, S2, r2', xt2, q2'⟩
  have hxx := hext.trans xt2
  have hx2 := hxx.ρ l 0 _ hlt hx
  have fin : ∀ (j : Option Code) (i2 : LI), S2[l]? = some (.loop i2) → R (.bool j.isNone) (S2.set l (.loop { i2 with st := if j.isNone then .ready else .done, pend := j })) →
      ∃ v w', (Instr.endRound x.b j).run P w2 = .ok v w' ∧ ∃ u r E' S', (Ending.returned v) = .returned u ∧ R r S' ∧ VR E' r u ∧ SR E' S' w' ∧ Ext S.length E S w E' S' w' ∧ S.length ≤ S'.length := by
    intro j i2 hi2 hR
    obtain ⟨x', rc2, p1, p2, p3, p4, p5, p6, p7, p8, p9⟩ := r2'.sr.obs _ _ hi2
    rw [hx2] at p1; cases p1
    obtain ⟨s1, s2⟩ := r2'.sr.loopSet (i' := { i2 with st := if j.isNone then .ready else .done, pend := j }) (r' := { rc2 with state := if j.isNone then .ready else .done, pending := j }) hi2 hx2 p2 rfl rfl p5 p6 p7 p8 p9
    exact ⟨_, _, run_endRound j p2, _, _, E2, _, rfl, hR, .bool _, s1, hxx.trans (s2.less r2'.base), by simp; exact r2'.base⟩
  cases ex <;> simp only [roundP] at q2'
  · obtain ⟨i2, hi2, hR⟩ := q2'
    exact fin none i2 hi2 hR
  · obtain ⟨i2, hi2, hR⟩ := q2'
    exact fin (some (.exit _)) i2 hi2 hR
  · obtain ⟨i2, hi2, hR⟩ := q2'
    exact fin (some .ret) i2 hi2 hR

/-- The assignments and the body of a function's k-th range over a function. -/
def rfs : Code → List (Code × Code)
  | .rangeFunc _ _ a b => [(a, b)]
  | .seq a b | .cond _ a b => rfs a ++ rfs b
  | .block _ c | .loop c | .scope c => rfs c
  | _ => []
def rfAt (f : Func) (k : Nat) : Code × Code := match f.body with
  | some c => ((rfs c)[k]?).getD (.skip, .skip)
  | none => (.skip, .skip)
end Go.Proofs.YtbifpocccfkhhaaGreatDoor
/- Freezing an array wherever a value names it. -/
namespace Go.Proofs.YtbifpocccfkhhaaGreatDoor
open Go

mutual
def V.frz (l : Nat) (xs : List V) (wr : Nat) : V → V
  | .arr l' off len st => if l' = l ∧ wr ≤ st ∧ off + len ≤ st then .sl false ((xs.drop off).take len) else .arr l' off len st
  | .sl x ys => .sl x (V.frzL l xs wr ys)
  | .iface t v => .iface t (V.frz l xs wr v)
  | .agg cs => .agg (V.frzL l xs wr cs)
  | .tup cs => .tup (V.frzL l xs wr cs)
  | v => v
def V.frzL (l : Nat) (xs : List V) (wr : Nat) : List V → List V
  | [] => []
  | v :: vs => V.frz l xs wr v :: V.frzL l xs wr vs
end

theorem frzL_map {l wr : Nat} {xs : List V} : ∀ (vs : List V), V.frzL l xs wr vs = vs.map (V.frz l xs wr)
  | [] => rfl
  | v :: vs => by simp only [V.frzL, List.map_cons, frzL_map vs]

theorem frz_cells {l wr : Nat} {xs : List V} (v : V) : (v.frz l xs wr).cells = v.cells.map (V.frz l xs wr) := by
  cases v
  case arr l' off len st =>
    show (V.frz l xs wr (.arr l' off len st)).cells = [V.frz l xs wr (.arr l' off len st)]
    simp only [V.frz]
    by_cases hc : l' = l ∧ wr ≤ st ∧ off + len ≤ st
    · rw [if_pos hc]; rfl
    · rw [if_neg hc]; rfl
  all_goals simp only [V.frz, V.cells, List.map_cons, List.map_nil, frzL_map]

theorem SR.freezeV {E : En} {S : St} {w : World} (h : SR E S w) {l sz wr : Nat} {xs : List V} (ho : S[l]? = some (.arr xs sz wr)) :
    ∃ E', SR E' (S.set l .dead) w ∧ (∀ n, Ext n E S w E' (S.set l .dead) w) ∧ ∀ v u, VR E v u → VR E' (v.frz l xs wr) u := by
  obtain ⟨h0, h1, h2⟩ := h.obs l _ ho
  have hlive : live S l := ⟨_, ho, by simp⟩
  open Classical in
  let mine : Nat → Prop := fun b => ∃ st x, E.ρ l st = some x ∧ x.b = b
  open Classical in
  let E' : En := { E with I := fun b o => if mine b then w.cell? ⟨b, o, none⟩ else E.I b o }
  have hmo : ∀ b, mine b → own E S b := fun b ⟨st, x, hx, hb⟩ => ⟨l, st, x, hlive, hx, hb⟩
  have hle' : E.le E' := ⟨fun b o c hc => by
    simp only [E']
    split
    · rename_i hm
      rw [h.apart b o (hmo b hm)] at hc; cases hc
    · exact hc, fun _ _ _ h => h⟩
  have hρ : E'.ρ = E.ρ := rfl
  have hnot : ∀ b, own E' (S.set l .dead) b → own E S b ∧ ¬ mine b := by
    rintro b ⟨l', st, x, hl', hx, rfl⟩
    rw [hρ] at hx
    have hne : l' ≠ l := by
      rintro rfl
      obtain ⟨o, ho', hd⟩ := hl'
      rw [List.getElem?_set_self (live_lt hlive)] at ho'; cases ho'; exact hd rfl
    have hlv : live S l' := live_set hl' hlive
    refine ⟨⟨l', st, x, hlv, hx, rfl⟩, ?_⟩
    rintro ⟨st', y, hy, he⟩
    exact hne (h.inj l' l st st' x y hlv hlive hx hy he.symm)
  refine ⟨E', ⟨h.gl.old hle'.1 (fun _ _ _ _ _ _ => rfl), ?_, ?_, ?_, ?_, ?_, ?_⟩, fun n => ⟨Nat.le_refl _, hle'.1, fun l st x _ hx => hx, fun _ _ hx => hx, fun b hb => .inl (hnot b hb).1, ?_, fun _ _ _ => rfl, rfl⟩, ?_⟩
  · intro b o c hc
    simp only [E'] at hc
    split at hc
    · exact hc
    · exact h.I b o c hc
  · intro l' o' hl'
    by_cases hk : l' = l
    · subst hk
      rw [List.getElem?_set_self (live_lt hlive)] at hl'; cases hl'; trivial
    · rw [List.getElem?_set_ne (Ne.symm hk)] at hl'
      exact (h.obs l' o' hl').mono hle' (fun _ _ hx => hx) (fun _ _ _ => rfl)
  · intro l' st' x' hx'; simpa using h.dom l' st' x' hx'
  · intro b o hb
    obtain ⟨hb1, hb2⟩ := hnot b hb
    simp only [E']
    rw [if_neg hb2]
    exact h.apart b o hb1
  · intro b hb; exact h.lt b (hnot b hb).1
  · intro l1 l2 st1 st2 x1 x2 hl1 hl2 hx1 hx2 he
    exact h.inj l1 l2 st1 st2 x1 x2 (live_set hl1 hlive) (live_set hl2 hlive) hx1 hx2 he
  · intro b o c hc
    simp only [E'] at hc
    split at hc
    · rename_i hm; exact .inr (.inl (hmo b hm))
    · exact .inl hc
  · intro v u hv
    induction hv with
    | top u => exact .top u
    | bool b => exact .bool b
    | int k n => exact .int k n
    | str s => exact .str s
    | nilp => exact .nilp
    | ptr i off hr => exact VR.ptr (E := E') i off hr
    | iptr off hI hv _ => exact (VR.iptr off hI hv).mono hle'
    | glob g off => exact .glob g off
    | slnil x => exact .slnil x
    | slz x a => exact .slz x a
    | sl hc hx hs hI hv ih =>
      rename_i x ys b o cap sz'
      simp only [V.frz, frzL_map]
      have hlen : (ys.map (V.frz l xs wr)).length = ys.length := by simp
      have hcl : ∀ v : V, (v.frz l xs wr).cells.length = v.cells.length := fun v => by rw [frz_cells]; simp
      have := VR.sl (E := E') (x := x) (xs := ys.map (V.frz l xs wr)) (b := b) (o := o) (cap := cap) (sz := sz') (by rw [hlen]; exact hc) (fun he => by rw [hlen]; exact hx he)
        (fun v hv => by
          rw [List.mem_map] at hv
          obtain ⟨v0, hv0, rfl⟩ := hv
          rw [hcl]; exact hs v0 hv0)
        (fun i j hi hj => isSome_mono hle' (hI i j (by rw [← hlen]; exact hi) hj))
        (fun i v j c' c hv hcc hi => by
          rw [List.getElem?_map, Option.map_eq_some_iff] at hv
          obtain ⟨v0, hv0, rfl⟩ := hv
          rw [frz_cells, List.getElem?_map, Option.map_eq_some_iff] at hcc
          obtain ⟨c0, hc0, rfl⟩ := hcc
          have h1 := (List.getElem?_eq_some_iff.1 hv0).1
          have h2 := (List.getElem?_eq_some_iff.1 hc0).1
          rw [hs v0 (List.mem_of_getElem? hv0)] at h2
          exact ih i v0 j c0 c hv0 hc0 (I_back hle' (hI i j h1 h2) hi))
      rw [hlen] at this
      exact this
    | arr hr hN hc =>
      rename_i l' off len cap st x
      simp only [V.frz]
      split
      · rename_i hk
        obtain ⟨rfl, hwr, hle⟩ := hk
        obtain ⟨g1, g2, C, t, g3, g4, g5, g6⟩ := h2 st x hr hwr
        have hm : mine x.b := ⟨st, x, hr, rfl⟩
        have hlen : ((xs.drop off).take len).length = len := by simp; omega
        have hget : ∀ (i : Nat) (v : V), ((xs.drop off).take len)[i]? = some v → xs[off + i]? = some v ∧ i < len := fun i v hv => by
          have hi := (List.getElem?_eq_some_iff.1 hv).1
          rw [hlen] at hi
          rw [List.getElem?_take_of_lt hi, List.getElem?_drop] at hv
          exact ⟨hv, hi⟩
        have hmem : ∀ v, v ∈ (xs.drop off).take len → v.cells.length = x.sz := fun v hv => by rw [g2]; exact h1 v (List.mem_of_mem_drop (List.mem_of_mem_take hv))
        have hcell : ∀ (i j : Nat) (v c' : V), xs[off + i]? = some v → off + i < st → v.cells[j]? = some c' → ∃ c, E'.I x.b (off * x.sz + i * x.sz + j) = some c ∧ VR E c' c := by
          intro i j v c' hv hi hc'
          obtain ⟨c, hc1, hc2⟩ := g6 (off + i) v hv hi j c' hc'
          refine ⟨c, ?_, hc2⟩
          simp only [E']
          rw [if_pos hm, cell?_of g3, show off * x.sz + i * x.sz + j = (off + i) * x.sz + j by rw [Nat.add_mul]]; exact hc1
        have := VR.sl (E := E') (x := false) (xs := (xs.drop off).take len) (b := x.b) (o := off * x.sz) (cap := cap) (sz := x.sz) (by rw [hlen]; exact hc) (fun h => by cases h) hmem
          (fun i j hi hj => by
            rw [hlen] at hi
            have hx : xs[off + i]? = some (xs[off + i]'(by omega)) := by simp
            have hcl : (xs[off + i]'(by omega)).cells.length = x.sz := by rw [g2]; exact h1 _ (List.getElem_mem _)
            obtain ⟨c, hc1, _⟩ := hcell i j _ ((xs[off + i]'(by omega)).cells[j]'(by omega)) hx (by omega) (by simp)
            rw [hc1]; rfl)
          (fun i v j c' c hv hcc hi => by
            obtain ⟨hv', hi'⟩ := hget i v hv
            obtain ⟨d, hd1, hd2⟩ := hcell i j v c' hv' (by omega) hcc
            rw [hd1] at hi; cases hi
            exact hd2.mono hle')
        rw [hlen] at this
        exact this
      · exact VR.arr (E := E') hr hN hc
    | nilmap => exact .nilmap
    | map hr => exact VR.map (E := E') hr
    | fn h1 h2 g1 g2 _ _ => exact (VR.fn h1 h2 g1 g2).mono hle'
    | nilfn => exact .nilfn
    | iface t _ ih => exact .iface t ih
    | niliface => exact .niliface
    | yld hr => exact VR.yld (E := E') hr
    | agg hl g ih =>
      simp only [V.frz, frzL_map]
      refine .agg (by simpa using hl) fun i v u hv hu => ?_
      rw [List.getElem?_map, Option.map_eq_some_iff] at hv
      obtain ⟨v0, hv0, rfl⟩ := hv
      exact ih i v0 u hv0 hu
    | tup hl g ih =>
      simp only [V.frz, frzL_map]
      refine .tup (by simpa using hl) fun i v u hv hu => ?_
      rw [List.getElem?_map, Option.map_eq_some_iff] at hv
      obtain ⟨v0, hv0, rfl⟩ := hv
      exact ih i v0 u hv0 hu

theorem Ghost.freezeV {n l sz wr : Nat} {r : V} {S : St} {xs : List V} (ho : S[l]? = some (.arr xs sz wr)) : Ghost n r S (r.frz l xs wr) (S.set l .dead) := fun E w u hs hv hn => by
  obtain ⟨E', h1, h2, h3⟩ := hs.freezeV ho
  exact ⟨E', h3 _ _ hv, h1, h2 n, by simpa using hn⟩
end Go.Proofs.YtbifpocccfkhhaaGreatDoor
/- Running a function on known values: what the run yields is a contract. -/
namespace Go.Proofs.YtbifpocccfkhhaaGreatDoor
open Go

/-- The latest binding of each temporary. -/
def cmpE (seen : Nat) : Env → Env
  | [] => []
  | (k, v) :: e => if seen.testBit k = true then cmpE seen e else (k, v) :: cmpE (seen ||| (1 <<< k)) e

theorem cmpE_get : ∀ (e : Env) (seen t : Nat) (v : V), (cmpE seen e).get t = some v → e.get t = some v ∧ seen.testBit t = false
  | [], seen, t, v, h => by simp [cmpE, Env.get] at h
  | (k, w) :: e, seen, t, v, h => by
    simp only [cmpE] at h
    split at h
    · rename_i hs
      obtain ⟨h1, h2⟩ := cmpE_get e seen t v h
      refine ⟨?_, h2⟩
      simp only [Env.get]
      rw [if_neg (by rintro rfl; rw [hs] at h2; cases h2)]; exact h1
    · rename_i hs
      simp only [Env.get] at h ⊢
      by_cases hk : k = t
      · subst hk
        rw [if_pos rfl] at h ⊢
        exact ⟨h, by simpa using hs⟩
      · rw [if_neg hk] at h ⊢
        obtain ⟨h1, h2⟩ := cmpE_get e _ t v h
        rw [Nat.testBit_or] at h2
        simp at h2
        exact ⟨h1, by simpa using h2.1⟩

theorem cmpE_sub (e : Env) : Env.sub (cmpE 0 e) e := fun t v h => (cmpE_get e 0 t v h).1

/-- The arrays that a value names where they may be frozen. -/
def V.arrs : Nat → V → List Nat
  | 0, _ => []
  | n + 1, v => match v with
    | .arr l _ _ _ => [l]
    | .sl _ ys => ys.flatMap (V.arrs n)
    | .iface _ v => V.arrs n v
    | .agg cs => cs.flatMap (V.arrs n)
    | .tup cs => cs.flatMap (V.arrs n)
    | _ => []

/-- Whether a value is free of the object l. -/
def V.lacks (l : Nat) : Nat → V → Bool
  | 0, _ => false
  | n + 1, v => match v with
    | .arr l' _ _ _ | .ptr l' _ _ _ | .map l' | .yld l' => !(l' == l)
    | .sl _ ys => ys.all (V.lacks l n)
    | .iface _ v => V.lacks l n v
    | .iptr v _ => V.lacks l n v
    | .agg cs => cs.all (V.lacks l n)
    | .tup cs => cs.all (V.lacks l n)
    | .fn _ a b => a.all (V.lacks l n) && b.all (V.lacks l n)
    | _ => true

def Ob.lacks (l : Nat) : Ob → Bool
  | .arr xs _ _ => xs.all (V.lacks l 100)
  | .map es _ _ => es.all fun p => p.1.lacks l 100 && p.2.lacks l 100
  | .iter lm _ _ _ => !(lm == l)
  | .dead => true
  | .loop _ => false

def othersLack (l : Nat) : Nat → St → Bool
  | _, [] => true
  | k, o :: S => (k == l || o.lacks l) && othersLack l (k + 1) S

def pickArr (n0 : Nat) (S : St) : List Nat → Option (Nat × List V × Nat)
  | [] => none
  | l :: ls => match S[l]? with
    | some (.arr xs _ wr) => if n0 ≤ l ∧ othersLack l 0 S = true then some (l, xs, wr) else pickArr n0 S ls
    | _ => pickArr n0 S ls

def cutAt (n0 : Nat) (r : V) (S : St) : V × St :=
  if r.under n0 = true ∧ (S.take n0).all (fun o => o.under n0) = true ∧ n0 ≤ S.length then (r, S.take n0) else (r, S)

def norm (n0 : Nat) : Nat → V → St → V × St
  | 0, r, S => (r, S)
  | k + 1, r, S => match pickArr n0 S (r.arrs 100) with
    | some (l, xs, wr) => norm n0 k (r.frz l xs wr) (S.set l .dead)
    | none => cutAt n0 r S

theorem pickArr_spec {n0 : Nat} {S : St} : ∀ {ls : List Nat} {l wr : Nat} {xs : List V}, pickArr n0 S ls = some (l, xs, wr) → ∃ sz, S[l]? = some (.arr xs sz wr)
  | [], _, _, _, h => by cases h
  | l0 :: ls, l, wr, xs, h => by
    simp only [pickArr] at h
    split at h
    · rename_i xs' sz wr' ho
      split at h
      · simp only [Option.some.injEq, Prod.mk.injEq] at h
        obtain ⟨rfl, rfl, rfl⟩ := h
        exact ⟨sz, ho⟩
      · exact pickArr_spec h
    · exact pickArr_spec h

theorem norm_ghost {n0 : Nat} : ∀ (k : Nat) (r : V) (S : St), Ghost n0 r S (norm n0 k r S).1 (norm n0 k r S).2
  | 0, r, S => Ghost.refl _ _ _
  | k + 1, r, S => by
    simp only [norm]
    split
    · rename_i l xs wr h
      obtain ⟨sz, ho⟩ := pickArr_spec h
      exact (Ghost.freezeV ho).trans (norm_ghost k _ _)
    · unfold cutAt
      split
      · rename_i h
        obtain ⟨h1, h2, h3⟩ := h
        simp only [List.all_eq_true] at h2
        exact Ghost.cut h1 h2 (Nat.le_refl _) h3
      · exact Ghost.refl _ _ _

/-! Equal values. -/
mutual
def V.same : V → V → Bool
  | .bool a, .bool b => a == b
  | .int k a, .int k' b => k == k' && a == b
  | .str a, .str b => a.data.toList == b.data.toList
  | .nilp, .nilp => true
  | .ptr a b c d, .ptr a' b' c' d' => a == a' && b == b' && c == c' && d == d'
  | .glob a b, .glob a' b' => a == a' && b == b'
  | .sl x xs, .sl y ys => x == y && V.sames xs ys
  | .arr a b c d, .arr a' b' c' d' => a == a' && b == b' && c == c' && d == d'
  | .nilmap, .nilmap => true
  | .map l, .map l' => l == l'
  | .nilfn, .nilfn => true
  | .niliface, .niliface => true
  | .iptr v o, .iptr v' o' => V.same v v' && o == o'
  | .agg xs, .agg ys => V.sames xs ys
  | .tup xs, .tup ys => V.sames xs ys
  | _, _ => false
def V.sames : List V → List V → Bool
  | [], [] => true
  | x :: xs, y :: ys => V.same x y && V.sames xs ys
  | _, _ => false
end

theorem str_same {a b : ByteArray} (h : (a.data.toList == b.data.toList) = true) : a = b := by
  obtain ⟨x⟩ := a
  obtain ⟨y⟩ := b
  simp at h
  rw [h]

mutual
theorem same_spec : ∀ (a b : V), V.same a b = true → a = b
  | .bool a, .bool b, h => by simp only [V.same, beq_iff_eq] at h; rw [h]
  | .int k a, .int k' b, h => by simp only [V.same, Bool.and_eq_true, beq_iff_eq] at h; rw [h.1, h.2]
  | .str a, .str b, h => by simp only [V.same] at h; rw [str_same h]
  | .nilp, .nilp, _ => rfl
  | .glob a b, .glob a' b', h => by simp only [V.same, Bool.and_eq_true, beq_iff_eq] at h; obtain ⟨rfl, rfl⟩ := h; rfl
  | .ptr a b c d, .ptr a' b' c' d', h => by simp only [V.same, Bool.and_eq_true, beq_iff_eq] at h; obtain ⟨⟨⟨rfl, rfl⟩, rfl⟩, rfl⟩ := h; rfl
  | .sl x xs, .sl y ys, h => by simp only [V.same, Bool.and_eq_true, beq_iff_eq] at h; rw [h.1, sames_spec xs ys h.2]
  | .arr a b c d, .arr a' b' c' d', h => by simp only [V.same, Bool.and_eq_true, beq_iff_eq] at h; obtain ⟨⟨⟨rfl, rfl⟩, rfl⟩, rfl⟩ := h; rfl
  | .nilmap, .nilmap, _ => rfl
  | .map l, .map l', h => by simp only [V.same, beq_iff_eq] at h; rw [h]
  | .nilfn, .nilfn, _ => rfl
  | .niliface, .niliface, _ => rfl
  | .iptr v o, .iptr v' o', h => by simp only [V.same, Bool.and_eq_true, beq_iff_eq] at h; rw [same_spec v v' h.1, h.2]
  | .agg xs, .agg ys, h => by simp only [V.same] at h; rw [sames_spec xs ys h]
  | .tup xs, .tup ys, h => by simp only [V.same] at h; rw [sames_spec xs ys h]
  | .top, b, h => by cases b <;> simp [V.same] at h
  | .fn _ _ _, b, h => by cases b <;> simp [V.same] at h
  | .iface _ _, b, h => by cases b <;> simp [V.same] at h
  | .yld _, b, h => by cases b <;> simp [V.same] at h
  | .glob .., .top, h | .glob .., .bool _, h | .glob .., .int _ _, h | .glob .., .str _, h | .glob .., .nilp, h | .glob .., .ptr .., h | .glob .., .iptr .., h | .glob .., .sl .., h | .glob .., .arr .., h | .glob .., .nilmap, h | .glob .., .map _, h | .glob .., .fn .., h | .glob .., .nilfn, h | .glob .., .iface .., h | .glob .., .niliface, h | .glob .., .yld _, h | .glob .., .agg _, h | .glob .., .tup _, h => by simp [V.same] at h
  | .bool _, .top, h | .bool _, .int _ _, h | .bool _, .str _, h | .bool _, .nilp, h | .bool _, .ptr .., h | .bool _, .iptr .., h | .bool _, .sl .., h | .bool _, .arr .., h | .bool _, .nilmap, h | .bool _, .map _, h | .bool _, .fn .., h | .bool _, .nilfn, h | .bool _, .iface .., h | .bool _, .niliface, h | .bool _, .yld _, h | .bool _, .agg _, h | .bool _, .tup _, h | .bool _, .glob .., h => by simp [V.same] at h
  | .int _ _, .top, h | .int _ _, .bool _, h | .int _ _, .str _, h | .int _ _, .nilp, h | .int _ _, .ptr .., h | .int _ _, .iptr .., h | .int _ _, .sl .., h | .int _ _, .arr .., h | .int _ _, .nilmap, h | .int _ _, .map _, h | .int _ _, .fn .., h | .int _ _, .nilfn, h | .int _ _, .iface .., h | .int _ _, .niliface, h | .int _ _, .yld _, h | .int _ _, .agg _, h | .int _ _, .tup _, h | .int _ _, .glob .., h => by simp [V.same] at h
  | .str _, .top, h | .str _, .bool _, h | .str _, .int _ _, h | .str _, .nilp, h | .str _, .ptr .., h | .str _, .iptr .., h | .str _, .sl .., h | .str _, .arr .., h | .str _, .nilmap, h | .str _, .map _, h | .str _, .fn .., h | .str _, .nilfn, h | .str _, .iface .., h | .str _, .niliface, h | .str _, .yld _, h | .str _, .agg _, h | .str _, .tup _, h | .str _, .glob .., h => by simp [V.same] at h
  | .nilp, .top, h | .nilp, .bool _, h | .nilp, .int _ _, h | .nilp, .str _, h | .nilp, .ptr .., h | .nilp, .iptr .., h | .nilp, .sl .., h | .nilp, .arr .., h | .nilp, .nilmap, h | .nilp, .map _, h | .nilp, .fn .., h | .nilp, .nilfn, h | .nilp, .iface .., h | .nilp, .niliface, h | .nilp, .yld _, h | .nilp, .agg _, h | .nilp, .tup _, h | .nilp, .glob .., h => by simp [V.same] at h
  | .ptr .., .top, h | .ptr .., .bool _, h | .ptr .., .int _ _, h | .ptr .., .str _, h | .ptr .., .nilp, h | .ptr .., .iptr .., h | .ptr .., .sl .., h | .ptr .., .arr .., h | .ptr .., .nilmap, h | .ptr .., .map _, h | .ptr .., .fn .., h | .ptr .., .nilfn, h | .ptr .., .iface .., h | .ptr .., .niliface, h | .ptr .., .yld _, h | .ptr .., .agg _, h | .ptr .., .tup _, h | .ptr .., .glob .., h => by simp [V.same] at h
  | .sl .., .top, h | .sl .., .bool _, h | .sl .., .int _ _, h | .sl .., .str _, h | .sl .., .nilp, h | .sl .., .ptr .., h | .sl .., .iptr .., h | .sl .., .arr .., h | .sl .., .nilmap, h | .sl .., .map _, h | .sl .., .fn .., h | .sl .., .nilfn, h | .sl .., .iface .., h | .sl .., .niliface, h | .sl .., .yld _, h | .sl .., .agg _, h | .sl .., .tup _, h | .sl .., .glob .., h => by simp [V.same] at h
  | .arr .., .top, h | .arr .., .bool _, h | .arr .., .int _ _, h | .arr .., .str _, h | .arr .., .nilp, h | .arr .., .ptr .., h | .arr .., .iptr .., h | .arr .., .sl .., h | .arr .., .nilmap, h | .arr .., .map _, h | .arr .., .fn .., h | .arr .., .nilfn, h | .arr .., .iface .., h | .arr .., .niliface, h | .arr .., .yld _, h | .arr .., .agg _, h | .arr .., .tup _, h | .arr .., .glob .., h => by simp [V.same] at h
  | .nilmap, .top, h | .nilmap, .bool _, h | .nilmap, .int _ _, h | .nilmap, .str _, h | .nilmap, .nilp, h | .nilmap, .ptr .., h | .nilmap, .iptr .., h | .nilmap, .sl .., h | .nilmap, .arr .., h | .nilmap, .map _, h | .nilmap, .fn .., h | .nilmap, .nilfn, h | .nilmap, .iface .., h | .nilmap, .niliface, h | .nilmap, .yld _, h | .nilmap, .agg _, h | .nilmap, .tup _, h | .nilmap, .glob .., h => by simp [V.same] at h
  | .map _, .top, h | .map _, .bool _, h | .map _, .int _ _, h | .map _, .str _, h | .map _, .nilp, h | .map _, .ptr .., h | .map _, .iptr .., h | .map _, .sl .., h | .map _, .arr .., h | .map _, .nilmap, h | .map _, .fn .., h | .map _, .nilfn, h | .map _, .iface .., h | .map _, .niliface, h | .map _, .yld _, h | .map _, .agg _, h | .map _, .tup _, h | .map _, .glob .., h => by simp [V.same] at h
  | .nilfn, .top, h | .nilfn, .bool _, h | .nilfn, .int _ _, h | .nilfn, .str _, h | .nilfn, .nilp, h | .nilfn, .ptr .., h | .nilfn, .iptr .., h | .nilfn, .sl .., h | .nilfn, .arr .., h | .nilfn, .nilmap, h | .nilfn, .map _, h | .nilfn, .fn .., h | .nilfn, .iface .., h | .nilfn, .niliface, h | .nilfn, .yld _, h | .nilfn, .agg _, h | .nilfn, .tup _, h | .nilfn, .glob .., h => by simp [V.same] at h
  | .niliface, .top, h | .niliface, .bool _, h | .niliface, .int _ _, h | .niliface, .str _, h | .niliface, .nilp, h | .niliface, .ptr .., h | .niliface, .iptr .., h | .niliface, .sl .., h | .niliface, .arr .., h | .niliface, .nilmap, h | .niliface, .map _, h | .niliface, .fn .., h | .niliface, .nilfn, h | .niliface, .iface .., h | .niliface, .yld _, h | .niliface, .agg _, h | .niliface, .tup _, h | .niliface, .glob .., h => by simp [V.same] at h
  | .iptr .., .top, h | .iptr .., .bool _, h | .iptr .., .int _ _, h | .iptr .., .str _, h | .iptr .., .nilp, h | .iptr .., .ptr .., h | .iptr .., .sl .., h | .iptr .., .arr .., h | .iptr .., .nilmap, h | .iptr .., .map _, h | .iptr .., .fn .., h | .iptr .., .nilfn, h | .iptr .., .iface .., h | .iptr .., .niliface, h | .iptr .., .yld _, h | .iptr .., .agg _, h | .iptr .., .tup _, h | .iptr .., .glob .., h => by simp [V.same] at h
  | .agg _, .top, h | .agg _, .bool _, h | .agg _, .int _ _, h | .agg _, .str _, h | .agg _, .nilp, h | .agg _, .ptr .., h | .agg _, .iptr .., h | .agg _, .sl .., h | .agg _, .arr .., h | .agg _, .nilmap, h | .agg _, .map _, h | .agg _, .fn .., h | .agg _, .nilfn, h | .agg _, .iface .., h | .agg _, .niliface, h | .agg _, .yld _, h | .agg _, .tup _, h | .agg _, .glob .., h => by simp [V.same] at h
  | .tup _, .top, h | .tup _, .bool _, h | .tup _, .int _ _, h | .tup _, .str _, h | .tup _, .nilp, h | .tup _, .ptr .., h | .tup _, .iptr .., h | .tup _, .sl .., h | .tup _, .arr .., h | .tup _, .nilmap, h | .tup _, .map _, h | .tup _, .fn .., h | .tup _, .nilfn, h | .tup _, .iface .., h | .tup _, .niliface, h | .tup _, .yld _, h | .tup _, .agg _, h | .tup _, .glob .., h => by simp [V.same] at h
theorem sames_spec : ∀ (a b : List V), V.sames a b = true → a = b
  | [], [], _ => rfl
  | x :: xs, y :: ys, h => by simp only [V.sames, Bool.and_eq_true] at h; rw [same_spec x y h.1, sames_spec xs ys h.2]
  | [], _ :: _, h => by simp [V.sames] at h
  | _ :: _, [], h => by simp [V.sames] at h
end
end Go.Proofs.YtbifpocccfkhhaaGreatDoor
/- Running a function on known values. -/
namespace Go.Proofs.YtbifpocccfkhhaaGreatDoor
open Go

/-- The compiled functions, and what is known of some calls. -/
structure Tbl where
  fn : Nat → Option F'
  pr : Nat → List V → St → Option (V × St)

def rdOk (base : Nat) (ef : Env) (d : D) (T : St) : Bool :=
  match d.slot with
  | some s => match d.o.k with
    | .new z => match T[base + s]? with
      | some (.arr [y] sz 1) => V.same y z && sz == z.size && decide (0 < z.size) && z.cells.all V.flat
      | _ => false
    | _ => false
  | none => !d.o.k.writes && match evK ef T d.o.k with
    | some (v, _) => match d.o.dst with
      | none => true
      | some t => match ef.get t with
        | some u => V.same u v
        | none => false
    | none => false

def rdsOk (base : Nat) (ef : Env) (H : List St) : List D → Bool
  | [] => true
  | d :: ds => (if (d.chk && !d.w) = true then match wantedV ef d.o.g with
      | some true => ((H.drop d.lo).take (d.hi + 1 - d.lo)).all (rdOk base ef d)
      | _ => true
    else true) && rdsOk base ef H ds

theorem rdOk_spec {base : Nat} {ef : Env} {d : D} : ∀ {Ts : List St}, Ts.all (rdOk base ef d) = true → dchkQ base ef d Ts
  | [], _ => trivial
  | T :: Ts, h => by
    have h1 : rdOk base ef d T = true := by simp only [List.all_cons, Bool.and_eq_true] at h; exact h.1
    have h2 : Ts.all (rdOk base ef d) = true := by simp only [List.all_cons, Bool.and_eq_true] at h; exact h.2
    refine ⟨?_, rdOk_spec h2⟩
    unfold rdOk at h1
    split at h1
    · rename_i s hs
      split at h1 <;> try cases h1
      rename_i z hz
      split at h1 <;> try cases h1
      rename_i y sz ho
      simp only [Bool.and_eq_true, beq_iff_eq, decide_eq_true_eq] at h1
      obtain ⟨⟨⟨q1, q2⟩, q3⟩, q4⟩ := h1
      rw [same_spec _ _ q1, q2] at ho
      rw [hs, hz]
      exact ⟨ho, q3, q4⟩
    · rename_i hs
      simp only [Bool.and_eq_true, Bool.not_eq_true'] at h1
      obtain ⟨hw, h1⟩ := h1
      split at h1 <;> try cases h1
      rename_i v T' hev
      have := evK_same hw hev
      subst this
      rw [hs]
      refine ⟨v, hev, fun t ht => ?_⟩
      rw [ht] at h1
      simp only at h1
      split at h1
      · rename_i u hu
        rw [hu, same_spec _ _ h1]
      · cases h1

theorem rdsOk_spec {base : Nat} {ef : Env} {H : List St} : ∀ {ds : List D}, rdsOk base ef H ds = true → dchkL base ef H ds
  | [], _ => trivial
  | d :: ds, h => by
    unfold rdsOk at h
    rw [Bool.and_eq_true] at h
    refine ⟨?_, rdsOk_spec h.2⟩
    have h1 := h.1
    by_cases hc : (d.chk && !d.w) = true
    · rw [if_pos hc] at h1 ⊢
      cases hg : wantedV ef d.o.g with
      | none => trivial
      | some b => cases b with
        | false => trivial
        | true => rw [hg] at h1; exact rdOk_spec h1
    · rw [if_neg hc]; trivial

mutual
def exF (T : Tbl) : Nat → Nat → List V → St → Option (V × St)
  | 0, _, _, _ => none
  | n + 1, k, args, S => match T.pr k args S with
    | some r => some r
    | none => match T.fn k with
      | none => none
      | some f => if args.length ≤ f.N then match exC T n f.body (argEnv 0 args) S with
          | some (.normal, e, S') => (rvs e S' f.rs).map fun vs => norm S.length 1000 (retV vs) S'
          | some (.ret, e, S') => (rvs e S' f.rs).map fun vs => norm S.length 1000 (retV vs) S'
          | _ => none
        else none
def exC (T : Tbl) : Nat → C' → Env → St → Option (Exit × Env × St)
  | 0, _, _, _ => none
  | n + 1, c, e, S => match c with
    | .skip => some (.normal, e, S)
    | .reg ops => match exO T n ops e S with
      | some (e', S') => some (.normal, e', S')
      | none => none
    | .draw ds zs => match exD T n S.length ds ds e (S ++ phs zs) [S ++ phs zs] with
      | some (e', S') => some (.normal, e', S')
      | none => none
    | .drawl .. => none
    | .seq a b => match exC T n a e S with
      | some (.normal, e', S') => exC T n b e' S'
      | r => r
    | .cond c a b => match c.ev e with
      | some (.bool true) => exC T n a e S
      | some (.bool false) => exC T n b e S
      | _ => none
    | .block id c => match exC T n c e S with
      | some (.exit id', e', S') => if id' = id then some (.normal, e', S') else some (.exit id', e', S')
      | r => r
    | .scope c => match exC T n c e S with
      | some (.goto _, _, _) => none
      | r => r
    | .loop c => match exC T n c e S with
      | some (.normal, e', S') => exC T n (.loop c) (cmpE 0 e') S'
      | r => r
    | .exit id => some (.exit id, e, S)
    | .ret => some (.ret, e, S)
    | .bad => none
    | .rf .. => none
def exO (T : Tbl) : Nat → List O' → Env → St → Option (Env × St)
  | 0, _, _, _ => none
  | n + 1, os, e, S => match os with
    | [] => some (e, S)
    | o :: os => match wantedV e o.g with
      | none => none
      | some false => exO T n os (e.put o.dst (.tup [])) S
      | some true => match o.k with
        | .call f args => match f.ev e, evs e args with
          | some (.fn (.func k) fs cs), some vs => match exF T n k (fs ++ vs ++ cs) S with
            | some (r, S') => exO T n os (e.put o.dst r) S'
            | none => none
          | _, _ => none
        | k => match evK e S k with
          | some (r, S') => exO T n os (e.put o.dst r) S'
          | none => none
def exD (T : Tbl) : Nat → Nat → List D → List D → Env → St → List St → Option (Env × St)
  | 0, _, _, _, _, _, _ => none
  | n + 1, base, all, ds, e, S, H => match ds with
    | [] => if rdsOk base e H all = true then match H.getLast? with
        | some S' => some (e, S')
        | none => none
      else none
    | d :: ds => match wantedV e d.o.g with
      | none => none
      | some false => exD T n base all ds (e.put d.o.dst (.tup [])) S (if d.w then H ++ [S] else H)
      | some true => match d.slot with
        | some s => exD T n base all ds (e.put d.o.dst (.ptr (base + s) 0 0 1)) S (if d.w then H ++ [S] else H)
        | none => match d.o.k with
          | .call f args => match f.ev e, evs e args with
            | some (.fn (.func k) fs cs), some vs => match exF T n k (fs ++ vs ++ cs) S with
              | some (r, S') => exD T n base all ds (e.put d.o.dst r) S' (if d.w then H ++ [S'] else H)
              | none => none
            | _, _ => none
          | k => match evK e S k with
            | some (r, S') => exD T n base all ds (e.put d.o.dst r) S' (if d.w then H ++ [S'] else H)
            | none => none
end

structure Tbl.Ok (P : Program) (T : Tbl) : Prop where
  fn : ∀ k f', T.fn k = some f' → ∃ f, P.funcs[k]? = some f ∧ compF P f = some f'
  pr : ∀ k args S r S', T.pr k args S = some (r, S') → Spec P k args S (fun v U => v = r ∧ U = S')

theorem ex_sound {P : Program} {T : Tbl} (ok : T.Ok P) : ∀ n, (∀ k args S r S', exF T n k args S = some (r, S') → Spec P k args S (fun v U => v = r ∧ U = S')) ∧
    (∀ c e S x e' S', exC T n c e S = some (x, e', S') → ∀ Q : Post, Q x e' S' → WP P c Q e S) ∧
    (∀ os e S e' S', exO T n os e S = some (e', S') → ∀ Q : Env → St → Prop, Q e' S' → wops P os Q e S) ∧
    (∀ base all ds e S H e' S', exD T n base all ds e S H = some (e', S') → ∀ Q : Env → St → Prop, Q e' S' → dwp P base ds (dend base all Q) e S H) := by
  intro n
  induction n using Nat.strongRecOn with
  | ind n ih =>
    cases n with
    | zero => exact ⟨fun _ _ _ _ _ h => by simp [exF] at h, fun _ _ _ _ _ _ h => by simp [exC] at h, fun _ _ _ _ _ h => by simp [exO] at h, fun _ _ _ _ _ _ _ _ h => by simp [exD] at h⟩
    | succ n =>
      obtain ⟨iF, iC, iO, iD⟩ := ih n (Nat.lt_succ_self n)
      refine ⟨fun k args S r S' h => ?_, fun c e S x e' S' h Q hQ => ?_, fun os e S e' S' h Q hQ => ?_, fun base all ds e S H e' S' h Q hQ => ?_⟩
      · simp only [exF] at h
        split at h
        · rename_i r0 hp
          cases h
          exact ok.pr _ _ _ _ _ hp
        · split at h
          · cases h
          · rename_i f hf
            obtain ⟨fn, h1, h2⟩ := ok.fn _ _ hf
            split at h
            · rename_i hlen
              have fin : ∀ (x : Exit) (e : Env) (S1 : St), (x = .normal ∨ x = .ret) → exC T n f.body (argEnv 0 args) S = some (x, e, S1) → ((rvs e S1 f.rs).map fun vs => norm S.length 1000 (retV vs) S1) = some (r, S') → Spec P k args S (fun v U => v = r ∧ U = S') := by
                intro x e S1 hx hex hr
                cases hvs : rvs e S1 f.rs with
                | none => rw [hvs] at hr; cases hr
                | some vs =>
                  rw [hvs] at hr
                  simp only [Option.map_some, Option.some.injEq] at hr
                  refine Spec.intro h1 h2 hlen (iC _ _ _ _ _ _ hex _ ?_)
                  have hg := norm_ghost (n0 := S.length) 1000 (retV vs) S1
                  rw [hr] at hg
                  rcases hx with rfl | rfl <;> exact ⟨vs, hvs, r, S', hg, rfl, rfl⟩
              split at h
              · rename_i hex; exact fin _ _ _ (.inl rfl) hex h
              · rename_i hex; exact fin _ _ _ (.inr rfl) hex h
              · cases h
            · cases h
      · cases c <;> simp only [exC] at h
        case skip => cases h; exact hQ
        case reg ops =>
          split at h <;> cases h
          rename_i hex
          exact iO _ _ _ _ _ hex _ hQ
        case draw ds zs =>
          split at h <;> cases h
          rename_i hex
          exact iD _ _ _ _ _ _ _ _ hex _ hQ
        case drawl => cases h
        case seq a b =>
          simp only [WP]
          split at h
          · rename_i e1 S1 hex
            exact iC _ _ _ _ _ _ hex _ (iC _ _ _ _ _ _ h _ hQ)
          · rename_i hne
            refine iC _ _ _ _ _ _ h _ ?_
            cases x <;> first | exact hQ | exact absurd h (hne _ _)
        case cond c a b =>
          simp only [WP]
          split at h <;> try cases h
          · rename_i hc
            rw [hc]
            exact ⟨fun _ => iC _ _ _ _ _ _ h _ hQ, fun h => (by cases h)⟩
          · rename_i hc
            rw [hc]
            exact ⟨fun h => (by cases h), fun _ => iC _ _ _ _ _ _ h _ hQ⟩
        case block id c =>
          simp only [WP]
          split at h
          · rename_i id' e1 S1 hex
            refine iC _ _ _ _ _ _ hex _ ?_
            simp only [pblock]
            split at h
            · rename_i hid; cases h; rw [if_pos hid]; exact hQ
            · rename_i hid; cases h; rw [if_neg hid]; exact hQ
          · rename_i hne
            refine iC _ _ _ _ _ _ h _ ?_
            cases x <;> first | exact hQ | exact absurd h (hne _ _ _)
        case scope c =>
          simp only [WP]
          split at h
          · cases h
          · rename_i hne
            refine iC _ _ _ _ _ _ h _ ?_
            cases x <;> first | exact hQ | exact absurd h (hne _ _ _)
        case loop c =>
          simp only [WP]
          refine ⟨fun m e S => m ≤ n + 1 ∧ ∃ x e' S', exC T m (.loop c) e S = some (x, e', S') ∧ Q x e' S', n + 1, ⟨e, fun _ _ h => h, Nat.le_refl _, x, e', S', by simp only [exC]; exact h, hQ⟩, ?_⟩
          rintro m e1 S1 ⟨hm, x1, e2, S2, hex, hQ1⟩
          cases m with
          | zero => simp [exC] at hex
          | succ m =>
            obtain ⟨_, jC, _, _⟩ := ih m (by omega)
            simp only [exC] at hex
            split at hex
            · rename_i e3 S3 hb
              refine jC _ _ _ _ _ _ hb _ ?_
              exact ⟨m, Nat.lt_succ_self m, cmpE 0 e3, cmpE_sub e3, by omega, x1, e2, S2, hex, hQ1⟩
            · rename_i hne
              refine jC _ _ _ _ _ _ hex _ ?_
              cases x1 <;> first | exact hQ1 | exact absurd hex (hne _ _)
        case exit id => cases h; exact hQ
        case ret => cases h; exact hQ
        case bad => cases h
        case rf => cases h
      · cases os with
        | nil => simp only [exO] at h; cases h; exact hQ
        | cons o os =>
          simp only [exO] at h
          simp only [wops]
          split at h
          · cases h
          · rename_i hw
            rw [hw]
            exact iO _ _ _ _ _ h _ hQ
          · rename_i hw
            rw [hw]
            generalize o.k = k at h ⊢
            cases k
            case call f args =>
              simp only at h ⊢
              split at h <;> try cases h
              rename_i kf fs cs vs hf hvs
              rw [hf, hvs]
              split at h <;> try cases h
              rename_i r S1 hex
              exact ⟨_, iF _ _ _ _ _ hex, fun r' U hr => by obtain ⟨rfl, rfl⟩ := hr; exact iO _ _ _ _ _ h _ hQ⟩
            all_goals
              simp only at h ⊢
              split at h <;> try cases h
              rename_i r S1 hev
              rw [hev]
              exact iO _ _ _ _ _ h _ hQ
      · cases ds with
        | nil =>
          simp only [exD] at h
          split at h <;> try cases h
          rename_i hr
          split at h <;> cases h
          rename_i S1 hl
          simp only [dwp, dend]
          exact ⟨rdsOk_spec hr, by rw [hl]; exact hQ⟩
        | cons d ds =>
          simp only [exD] at h
          simp only [dwp]
          split at h
          · cases h
          · rename_i hw
            rw [hw]
            exact iD _ _ _ _ _ _ _ _ h _ hQ
          · rename_i hw
            rw [hw]
            split at h
            · rename_i s hs
              rw [hs]
              exact iD _ _ _ _ _ _ _ _ h _ hQ
            · rename_i hs
              rw [hs]
              generalize d.o.k = k at h ⊢
              cases k
              case call f args =>
                simp only at h ⊢
                split at h <;> try cases h
                rename_i kf fs cs vs hf hvs
                rw [hf, hvs]
                split at h <;> try cases h
                rename_i r S1 hex
                exact ⟨r, S1, iF _ _ _ _ _ hex, iD _ _ _ _ _ _ _ _ h _ hQ⟩
              all_goals
                simp only at h ⊢
                split at h <;> try cases h
                rename_i r S1 hev
                rw [hev]
                exact iD _ _ _ _ _ _ _ _ h _ hQ
end Go.Proofs.YtbifpocccfkhhaaGreatDoor
