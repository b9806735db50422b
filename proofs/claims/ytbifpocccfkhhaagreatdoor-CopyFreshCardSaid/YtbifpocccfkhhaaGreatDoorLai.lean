/- Runs with one outcome: functions. -/
import Derived.Test.YtbifpocccfkhhaaGreatDoorLah
namespace Go.Proofs.YtbifpocccfkhhaaGreatDoor
open Go

/-- Code as it is compiled. -/
def C'.wf (P : Program) : C' → Prop
  | .seq a b | .cond _ a b => a.wf P ∧ b.wf P
  | .block _ c | .scope c | .loop c => c.wf P
  | .rf _ _ asg body ca cb N _ => comp P N asg = some ca ∧ comp P N body = some cb ∧ ca.wf P ∧ cb.wf P
  | _ => True

theorem comp_wf {P : Program} {N : Nat} : ∀ (c : Code) {c' : C'}, comp P N c = some c' → c'.wf P := by
  intro c
  induction c with
  | region id ops draw =>
    intro c' h
    simp only [comp] at h
    split at h
    · split at h
      · cases h; trivial
      · split at h <;> cases h <;> trivial
    · split at h <;> cases h <;> trivial
  | seq x y ihx ihy =>
    intro c' h
    simp only [comp] at h
    split at h <;> cases h
    rename_i hx hy
    exact ⟨ihx hx, ihy hy⟩
  | cond o x y ihx ihy =>
    intro c' h
    simp only [comp] at h
    split at h <;> cases h
    rename_i hx hy
    exact ⟨ihx hx, ihy hy⟩
  | block id x ih =>
    intro c' h
    simp only [comp] at h
    cases hx : comp P N x with
    | none => rw [hx] at h; cases h
    | some x' => rw [hx] at h; cases h; exact (show x'.wf P from ih hx)
  | scope x ih =>
    intro c' h
    simp only [comp] at h
    cases hx : comp P N x with
    | none => rw [hx] at h; cases h
    | some x' => rw [hx] at h; cases h; exact (show x'.wf P from ih hx)
  | loop x ih =>
    intro c' h
    simp only [comp] at h
    cases hx : comp P N x with
    | none => rw [hx] at h; cases h
    | some x' => rw [hx] at h; cases h; exact (show x'.wf P from ih hx)
  | rangeFunc f ps asg body iha ihb =>
    intro c' h
    simp only [comp] at h
    split at h
    · rename_i hca hcb
      split at h
      · cases h; exact ⟨hca, hcb, iha hca, ihb hcb⟩
      · cases h; trivial
    · cases h; trivial
  | _ => intro c' h; simp only [comp, Option.some.injEq] at h; subst h; trivial

theorem compF_wf {P : Program} {fn : Func} {f : F'} (h : compF P fn = some f) : f.body.wf P := by
  unfold compF at h
  split at h
  · split at h
    · cases h
    · rename_i c rs hb hrs hn
      cases hx : comp P fn.ntmps c with
      | none => rw [hx] at h; cases h
      | some c' => rw [hx] at h; cases h; exact comp_wf c hx
  · cases h

noncomputable def afterK (l : Nat) (tr : TE) (k : KC) : V → TS → Bool := fun _ ts => ts.get l fun o => match o with
  | .loop i => iteR (notBusy i.st) (match i.pend with
    | none => k .normal tr (ts.set l (skL .exhausted none))
    | some .ret => k .ret tr (ts.set l (skL .exhausted (some .ret)))
    | some (.exit id) => k (.exit id) tr (ts.set l (skL .exhausted (some (.exit id))))
    | _ => false) false
  | _ => false

noncomputable def rfG (call : GCall) (ctx : Ctx) (g : Opd) (ps : List Nat) (na nb : Bool) (N : Nat) (tsl : List Nat) (fa fb : TE → TS → KC → Bool) (tr : TE) (ts : TS) (k : KC) : Bool :=
  iteR (andR na (andR nb (ps.all fun p => decide (p < N)))) (opd g tr fun gv => match gv with
    | .fn (.func kf) fs cs => forceN ts.len fun l => call ((l, roundR fa fb ps (keepT tsl tr) l) :: ctx) kf (appR (appR fs [.yld l]) cs) (TS.push ⟨l, ts.tr⟩ (skL .ready none)) (afterK l tr k)
    | _ => false) false

noncomputable def dC (call : GCall) (ctx : Ctx) (c : C') : TE → TS → KC → Bool := C'.rec (motive := fun _ => TE → TS → KC → Bool)
  (fun tr ts k => k .normal tr ts)
  (fun ops tr ts k => dO call ctx ops tr ts fun tr' ts' => k .normal tr' ts')
  (fun ds zs tr ts k => pushR zs ts fun ts1 => fD (noCtx call) ts.len ds ds tr ts1 [ts1] fun tr' ts' => k .normal tr' ts')
  (fun ds zs o tr ts k => pushR zs ts fun ts1 => fD (noCtx call) ts.len ds ds tr ts1 [ts1] fun tr' ts' => dO call ctx [o] tr' ts' fun tr' ts' => k .normal tr' ts')
  (fun _ _ iha ihb tr ts k => iha tr ts (seqK k fun tr' ts' => ihb tr' ts' k))
  (fun c _ _ iha ihb tr ts k => opd c tr fun v => boolR v fun b => iteR b (iha tr ts k) (ihb tr ts k))
  (fun id _ ih tr ts k => ih tr ts (blockK id k))
  (fun _ ih tr ts k => ih tr ts (scopeK k))
  (fun _ ih tr ts k => loopF ih k loopMax tr ts)
  (fun id tr ts k => k (.exit id) tr ts)
  (fun tr ts k => k .ret tr ts)
  (fun _ _ _ => false)
  (fun g ps _ _ ca cb N tsl iha ihb tr ts k => rfG call ctx g ps ca.noRf cb.noRf N tsl iha ihb tr ts k) c

theorem dloop_spec {P : Program} {ctx : Ctx} {c : C'} {f : TE → TS → KC → Bool} (ih : DSpec P ctx c f) :
    ∀ (n : Nat) {tr : TE} {e : Env} {ts : TS} {S : St} {k : KC}, DCtxOk P ctx S → tr.sub e → ts.Abs S → loopF f k n tr ts = true →
    ∃ x tr' ts' S' e', (Kept S S' ∧ ts'.Abs S') ∧ tr'.sub e' ∧ k x tr' ts' = true ∧ ∀ Q : Post, Q x e' S' → loopW P c Q n e S
  | 0, tr, e, ts, S, k, _, ht, hs, h => by cases h
  | n + 1, tr, e, ts, S, k, hctx, ht, hs, h => by
    obtain ⟨x1, tr1, ts1, S1, e1, a1, a2, a3, a4⟩ := ih hctx ht hs (show f tr ts (seqK k (loopF f k n)) = true from h)
    by_cases hx : x1 = .normal
    · subst hx
      obtain ⟨x, tr', ts', S', e', b1, b2, b3, b4⟩ := dloop_spec ih n (hctx.kept a1.1) a2 a1.2 (show loopF f k n tr1 ts1 = true from a3)
      exact ⟨x, tr', ts', S', e', ⟨a1.1.trans b1.1, b1.2⟩, b2, b3, fun Q hQ R hR => a4 _ (hR _ _ (b4 Q hQ))⟩
    · have a5 : k x1 tr1 ts1 = true := by
        cases x1 <;> first | exact absurd rfl hx | exact a3
      refine ⟨x1, tr1, ts1, S1, e1, a1, a2, a5, fun Q hQ R hR => a4 _ ?_⟩
      cases x1 <;> first | exact absurd rfl hx | exact hQ

theorem dC_spec {P : Program} {call : GCall} (ok : DOk P call) {ctx : Ctx} : ∀ (c : C'), c.wf P → DSpec P ctx c (dC call ctx c) := by
  intro c
  induction c with
  | skip => intro hwf tr e ts S k hctx ht hs h; exact ⟨_, tr, ts, S, e, ⟨Kept.refl _, hs⟩, ht, h, fun Q hQ => hQ⟩
  | reg ops =>
    intro hwf tr e ts S k hctx ht hs h
    obtain ⟨tr', ts', S', e', h1, h2, h3, h4⟩ := dO_spec ok hctx ht hs (show dO call ctx ops tr ts (fun tr' ts' => k .normal tr' ts') = true from h)
    exact ⟨_, tr', ts', S', e', h1, h2, h3, fun Q hQ => h4 (Q .normal) hQ⟩
  | draw ds zs =>
    intro hwf tr e ts S k hctx ht hs h
    obtain ⟨ts1, g1, g2⟩ := pushR_spec hs (show (pushR zs ts fun ts1 => fD (noCtx call) ts.len ds ds tr ts1 [ts1] fun tr' ts' => k .normal tr' ts') = true from h)
    obtain ⟨tr', ts', S', e', h1, h2, h3, h4⟩ := fD_spec (S0 := S) (noCtx_ok ok) ht g1 (.cons g1 .nil) ⟨Kept.app _ _, fun U hU => by rw [List.mem_singleton] at hU; subst hU; exact Kept.app _ _⟩ g2
    exact ⟨_, tr', ts', S', e', h1, h2, h3, fun Q hQ => by
      simp only [WP]
      rw [hs.1]
      exact h4 (Q .normal) hQ⟩
  | drawl ds zs o =>
    intro hwf tr e ts S k hctx ht hs h
    obtain ⟨ts1, g1, g2⟩ := pushR_spec hs (show (pushR zs ts fun ts1 => fD (noCtx call) ts.len ds ds tr ts1 [ts1] fun tr' ts' => dO call ctx [o] tr' ts' fun tr' ts' => k .normal tr' ts') = true from h)
    obtain ⟨tr1, ts1', S1, e1, h1, h2, h3, h4⟩ := fD_spec (S0 := S) (noCtx_ok ok) ht g1 (.cons g1 .nil) ⟨Kept.app _ _, fun U hU => by rw [List.mem_singleton] at hU; subst hU; exact Kept.app _ _⟩ g2
    obtain ⟨tr', ts', S', e', k1, k2, k3, k4⟩ := dO_spec ok (hctx.kept h1.1) h2 h1.2 h3
    exact ⟨_, tr', ts', S', e', ⟨h1.1.trans k1.1, k1.2⟩, k2, k3, fun Q hQ => by
      simp only [WP]
      rw [hs.1]
      exact h4 (lastPost P o Q .normal) (k4 (Q .normal) hQ)⟩
  | seq a b iha ihb =>
    intro hwf tr e ts S k hctx ht hs h
    obtain ⟨x1, tr1, ts1, S1, e1, a1, a2, a3, a4⟩ := iha hwf.1 hctx ht hs (show dC call ctx a tr ts (seqK k fun tr' ts' => dC call ctx b tr' ts' k) = true from h)
    by_cases hx : x1 = .normal
    · subst hx
      obtain ⟨x, tr', ts', S', e', b1, b2, b3, b4⟩ := ihb hwf.2 (hctx.kept a1.1) a2 a1.2 (show dC call ctx b tr1 ts1 k = true from a3)
      exact ⟨x, tr', ts', S', e', ⟨a1.1.trans b1.1, b1.2⟩, b2, b3, fun Q hQ => a4 _ (b4 Q hQ)⟩
    · have a5 : k x1 tr1 ts1 = true := by
        cases x1 <;> first | exact absurd rfl hx | exact a3
      refine ⟨x1, tr1, ts1, S1, e1, a1, a2, a5, fun Q hQ => a4 _ ?_⟩
      cases x1 <;> first | exact absurd rfl hx | exact hQ
  | cond c a b iha ihb =>
    intro hwf tr e ts S k hctx ht hs h
    obtain ⟨v, h1, h2⟩ := opd_spec (x := c) (c := fun v => boolR v fun t => iteR t (dC call ctx a tr ts k) (dC call ctx b tr ts k)) ht h
    obtain ⟨t, rfl, h3⟩ := boolR_spec h2
    cases t
    · obtain ⟨x, tr', ts', S', e', b1, b2, b3, b4⟩ := ihb hwf.2 hctx ht hs (show dC call ctx b tr ts k = true from h3)
      exact ⟨x, tr', ts', S', e', b1, b2, b3, fun Q hQ => by simp only [WP, h1]; exact ⟨fun h => (by cases h), fun _ => b4 Q hQ⟩⟩
    · obtain ⟨x, tr', ts', S', e', b1, b2, b3, b4⟩ := iha hwf.1 hctx ht hs (show dC call ctx a tr ts k = true from h3)
      exact ⟨x, tr', ts', S', e', b1, b2, b3, fun Q hQ => by simp only [WP, h1]; exact ⟨fun _ => b4 Q hQ, fun h => (by cases h)⟩⟩
  | block id c ih =>
    intro hwf tr e ts S k hctx ht hs h
    obtain ⟨x1, tr1, ts1, S1, e1, a1, a2, a3, a4⟩ := ih hwf hctx ht hs (show dC call ctx c tr ts (blockK id k) = true from h)
    by_cases hx : ∃ i, x1 = .exit i
    · obtain ⟨i, rfl⟩ := hx
      simp only [blockK, iteR_eq] at a3
      split at a3
      · rename_i hi
        have hi := beq_spec hi
        exact ⟨_, tr1, ts1, S1, e1, a1, a2, a3, fun Q hQ => a4 _ (by simp only [pblock]; rw [if_pos hi]; exact hQ)⟩
      · rename_i hi
        have hi : ¬ i = id := fun hh => hi (beq_iff'.2 hh)
        exact ⟨_, tr1, ts1, S1, e1, a1, a2, a3, fun Q hQ => a4 _ (by simp only [pblock]; rw [if_neg hi]; exact hQ)⟩
    · have a5 : k x1 tr1 ts1 = true := by
        cases x1 <;> first | exact absurd ⟨_, rfl⟩ hx | exact a3
      refine ⟨x1, tr1, ts1, S1, e1, a1, a2, a5, fun Q hQ => a4 _ ?_⟩
      cases x1 <;> first | exact absurd ⟨_, rfl⟩ hx | exact hQ
  | scope c ih =>
    intro hwf tr e ts S k hctx ht hs h
    obtain ⟨x1, tr1, ts1, S1, e1, a1, a2, a3, a4⟩ := ih hwf hctx ht hs (show dC call ctx c tr ts (scopeK k) = true from h)
    cases x1 <;> first
      | (exact (by cases a3))
      | exact ⟨_, tr1, ts1, S1, e1, a1, a2, a3, fun Q hQ => a4 _ hQ⟩
  | loop c ih =>
    intro hwf tr e ts S k hctx ht hs h
    obtain ⟨x, tr', ts', S', e', b1, b2, b3, b4⟩ := dloop_spec (ih hwf) loopMax hctx ht hs (show loopF (dC call ctx c) k loopMax tr ts = true from h)
    exact ⟨x, tr', ts', S', e', b1, b2, b3, fun Q hQ => loopW_wp (b4 Q hQ)⟩
  | exit id => intro hwf tr e ts S k hctx ht hs h; exact ⟨_, tr, ts, S, e, ⟨Kept.refl _, hs⟩, ht, h, fun Q hQ => hQ⟩
  | ret => intro hwf tr e ts S k hctx ht hs h; exact ⟨_, tr, ts, S, e, ⟨Kept.refl _, hs⟩, ht, h, fun Q hQ => hQ⟩
  | bad => intro hwf tr e ts S k hctx ht hs h; cases h
  | rf g ps asg body ca cb N tsl iha ihb =>
    intro hwf tr e ts S k hctx ht hs h
    obtain ⟨h1, h2⟩ := guard_spec (show iteR (andR ca.noRf (andR cb.noRf (ps.all fun p => decide (p < N)))) (opd g tr fun gv => match gv with
      | .fn (.func kf) fs cs => forceN ts.len fun l => call ((l, roundR (dC call ctx ca) (dC call ctx cb) ps (keepT tsl tr) l) :: ctx) kf (appR (appR fs [.yld l]) cs) (TS.push ⟨l, ts.tr⟩ (skL .ready none)) (afterK l tr k)
      | _ => false) false = true from h)
    obtain ⟨na, h3⟩ := andR_spec h1
    obtain ⟨nb, hps⟩ := andR_spec h3
    obtain ⟨gv, h4, h5⟩ := opd_spec ht h2
    split at h5 <;> try cases h5
    rename_i kf fs cs
    rw [forceN_eq, appR_eq, appR_eq] at h5
    have hlen := hs.1
    obtain ⟨hca, hcb, wa, wb⟩ := hwf
    let i0 : LI := ⟨.ready, none, ps, asg, body, e.keep tsl, N⟩
    have hs1 : (TS.push ⟨ts.len, ts.tr⟩ (skL .ready none)).Abs (S ++ [Ob.loop i0]) := TS.push_abs' hs rfl
    have hl0 : (S ++ [Ob.loop i0])[S.length]? = some (Ob.loop i0) := by simp
    have hctx1 : DCtxOk P ((ts.len, roundR (dC call ctx ca) (dC call ctx cb) ps (keepT tsl tr) ts.len) :: ctx) (S ++ [Ob.loop i0]) := by
      refine ⟨hctx.kept (Kept.app _ _), i0, ⟨.ready, none, by rw [← hlen]; exact hl0⟩, fun args ts2 U c hU hl hs2 hr => ?_⟩
      exact dround_spec (i0 := i0) (iha wa) (ihb wb) (keepT_sub ht tsl).1 hca hcb na nb hps hU hl hs2 hr
    obtain ⟨r, S1, ts1, hspec, hK1, g1, g2⟩ := ok _ _ _ _ _ _ hctx1 hs1 h5
    rw [← hlen] at hspec
    unfold afterK at g2
    obtain ⟨o, k1, k2⟩ := TS.get_spec g1 g2
    split at k2 <;> try cases k2
    rename_i i
    rw [← hlen] at k1
    obtain ⟨j, j1, j2, j3⟩ := sk_loop k1
    obtain ⟨k3, k4⟩ := guard_spec k2
    have hKK : ∀ st p, Kept S (S1.set S.length (Ob.loop { j with st := st, pend := p })) := fun st p => (Kept.app S _).trans (hK1.trans (Kept.setLoop j1 st p))
    have fin : ∀ x, (∀ Q : Post, Q x e (S1.set S.length (Ob.loop { j with st := .exhausted })) → match j.pend with
        | none => Q .normal e (S1.set S.length (Ob.loop { j with st := .exhausted }))
        | some .ret => Q .ret e (S1.set S.length (Ob.loop { j with st := .exhausted }))
        | some (.exit id) => Q (.exit id) e (S1.set S.length (Ob.loop { j with st := .exhausted }))
        | some _ => False) → ∀ Q : Post, Q x e (S1.set S.length (Ob.loop { j with st := .exhausted })) → WP P (.rf g ps asg body ca cb N tsl) Q e S := by
      intro x hx Q hQ
      simp only [WP]
      intro _ _
      rw [h4]
      refine ⟨_, hspec, fun r' U hr => ?_⟩
      obtain ⟨rfl, rfl⟩ := hr
      exact ⟨j, j1, by rw [j2]; exact notBusy_spec k3, hx Q hQ⟩
    split at k4
    · rename_i hp
      rw [hp] at j3
      refine ⟨_, tr, ts1.set S.length (skL .exhausted none), _, e, ⟨hKK .exhausted j.pend, TS.set_abs' g1 j1 (by cases j; simp only at j3; subst j3; rfl)⟩, ht, by rw [← hlen] at k4; exact k4, fin .normal fun Q hQ => by cases j; simp only at j3; subst j3; exact hQ⟩
    · rename_i hp
      rw [hp] at j3
      refine ⟨_, tr, ts1.set S.length (skL .exhausted (some .ret)), _, e, ⟨hKK .exhausted j.pend, TS.set_abs' g1 j1 (by cases j; simp only at j3; subst j3; rfl)⟩, ht, by rw [← hlen] at k4; exact k4, fin .ret fun Q hQ => by cases j; simp only at j3; subst j3; exact hQ⟩
    · rename_i id hp
      rw [hp] at j3
      refine ⟨_, tr, ts1.set S.length (skL .exhausted (some (.exit id))), _, e, ⟨hKK .exhausted j.pend, TS.set_abs' g1 j1 (by cases j; simp only at j3; subst j3; rfl)⟩, ht, by rw [← hlen] at k4; exact k4, fin (.exit id) fun Q hQ => by cases j; simp only at j3; subst j3; exact hQ⟩
    · cases k4

noncomputable def dF (T : Tb) (n : Nat) : GCall := Nat.rec (motive := fun _ => GCall) (fun _ _ _ _ _ => false)
  (fun _ ih ctx k args ts c => Option.rec (Option.rec false (fun f => iteR (Nat.ble (lenR args) f.N) (dC ih ctx f.body (argTE args 0 .nil) ts (endK f.rs c)) false) (T.fn k)) (fun r => c r ts) (T.pr k args)) n

theorem dF_ok {P : Program} {T : Tb} (ok : T.Ok P) : ∀ n, DOk P (dF T n)
  | 0 => fun ctx k args ts S c _ hs h => by cases h
  | n + 1 => fun ctx k args ts S c hctx hs h => by
    have h0 : (Option.rec (Option.rec false (fun f => iteR (Nat.ble (lenR args) f.N) (dC (dF T n) ctx f.body (argTE args 0 .nil) ts (endK f.rs c)) false) (T.fn k)) (fun r => c r ts) (T.pr k args) : Bool) = true := h
    cases hp : T.pr k args with
    | some r =>
      rw [hp] at h0
      exact ⟨r, S, ts, ok.pr _ _ _ hp S, Kept.refl _, hs, h0⟩
    | none =>
      rw [hp] at h0
      cases hf : T.fn k with
      | none => rw [hf] at h0; cases h0
      | some f =>
        rw [hf] at h0
        obtain ⟨h1, h2⟩ := guard_spec (show iteR (Nat.ble (lenR args) f.N) (dC (dF T n) ctx f.body (argTE args 0 .nil) ts (endK f.rs c)) false = true from h0)
        rw [lenR_eq] at h1
        obtain ⟨fn, g1, g2⟩ := ok.fn _ _ hf
        have hsub : (argTE args 0 .nil).sub (argEnv 0 args) := by
          have := argTE_sub args 0 .nil [] (fun j v hj => by rw [Tx.get_nil] at hj; cases hj) (fun j v hj => by cases hj)
          simpa using this
        obtain ⟨x, tr', ts', S', e', a1, a2, a3, a4⟩ := dC_spec (dF_ok ok n) f.body (compF_wf g2) hctx hsub hs h2
        have fin : (x = .normal ∨ x = .ret) → (rvsR f.rs tr' ts' fun vs => retR vs fun v => c v ts') = true → ∃ r S' ts', Spec P k args S (fun v U => v = r ∧ U = S') ∧ Kept S S' ∧ ts'.Abs S' ∧ c r ts' = true := by
          intro hx hr
          obtain ⟨vs, b1, b2⟩ := rvsR_spec a2 a1.2 hr
          rw [retR_eq] at b2
          refine ⟨retV vs, S', ts', Spec.intro g1 g2 (ble_spec h1) (a4 _ ?_), a1.1, a1.2, b2⟩
          rcases hx with rfl | rfl <;> exact ⟨vs, b1, retV vs, S', Ghost.refl _ _ _, rfl, rfl⟩
        cases x <;> first
          | exact fin (.inl rfl) a3
          | exact fin (.inr rfl) a3
          | (cases a3)
end Go.Proofs.YtbifpocccfkhhaaGreatDoor
/- Runs of functions, every outcome looked at. -/
namespace Go.Proofs.YtbifpocccfkhhaaGreatDoor
open Go

noncomputable def gC (det : CallT) (call : GCall) (ctx : Ctx) (c : C') : TE → TS → KC → Bool := C'.rec (motive := fun _ => TE → TS → KC → Bool)
  (fun tr ts k => k .normal tr ts)
  (fun ops tr ts k => gO call ctx ops tr ts fun tr' ts' => k .normal tr' ts')
  (fun ds zs tr ts k => pushR zs ts fun ts1 => fD det ts.len ds ds tr ts1 [ts1] fun tr' ts' => k .normal tr' ts')
  (fun ds zs o tr ts k => pushR zs ts fun ts1 => fD det ts.len ds ds tr ts1 [ts1] fun tr' ts' => gO call ctx [o] tr' ts' fun tr' ts' => k .normal tr' ts')
  (fun _ _ iha ihb tr ts k => iha tr ts (seqK k fun tr' ts' => ihb tr' ts' k))
  (fun c _ _ iha ihb tr ts k => opd c tr fun v => boolR v fun b => iteR b (iha tr ts k) (ihb tr ts k))
  (fun id _ ih tr ts k => ih tr ts (blockK id k))
  (fun _ ih tr ts k => ih tr ts (scopeK k))
  (fun _ ih tr ts k => loopF ih k loopMax tr ts)
  (fun id tr ts k => k (.exit id) tr ts)
  (fun tr ts k => k .ret tr ts)
  (fun _ _ _ => false)
  (fun g ps _ _ ca cb N tsl iha ihb tr ts k => rfG call ctx g ps ca.noRf cb.noRf N tsl iha ihb tr ts k) c

theorem gloop_spec {P : Program} {ctx : Ctx} {c : C'} {f : TE → TS → KC → Bool} (ih : GSpec P ctx c f) {S0 : St} (hctx : CtxOk P ctx S0) :
    ∀ (n : Nat) {tr : TE} {e : Env} {ts : TS} {S : St} {k : KC}, Kept S0 S → tr.sub e → ts.Abs S → loopF f k n tr ts = true → loopW P c (GPost S0 k) n e S
  | 0, tr, e, ts, S, k, _, _, _, h => by cases h
  | n + 1, tr, e, ts, S, k, hK, ht, hs, h => by
    intro R hR
    refine WP_mono (fun x e' S' hx => ?_) (ih hctx hK ht hs (show f tr ts (seqK k (loopF f k n)) = true from h))
    obtain ⟨hK', tr', ts', h1, h2, h3⟩ := hx
    cases x <;> first
      | exact hR _ _ (gloop_spec ih hctx n hK' h1 h2 h3)
      | exact ⟨hK', tr', ts', h1, h2, h3⟩

theorem gC_spec {P : Program} {det : CallT} (dok : CallOk P det) {call : GCall} (ok : GOk P call) {ctx : Ctx} : ∀ (c : C'), GSpec P ctx c (gC det call ctx c) := by
  intro c
  induction c with
  | skip => intro S0 tr e ts S k hctx hK ht hs h; exact ⟨hK, tr, ts, ht, hs, h⟩
  | reg ops =>
    intro S0 tr e ts S k hctx hK ht hs h
    exact gO_spec ok hctx hK ht hs (show gO call ctx ops tr ts (fun tr' ts' => k .normal tr' ts') = true from h)
  | draw ds zs =>
    intro S0 tr e ts S k hctx hK ht hs h
    obtain ⟨ts1, g1, g2⟩ := pushR_spec hs (show (pushR zs ts fun ts1 => fD det ts.len ds ds tr ts1 [ts1] fun tr' ts' => k .normal tr' ts') = true from h)
    obtain ⟨tr', ts', S', e', h1, h2, h3, h4⟩ := fD_spec (S0 := S) dok ht g1 (.cons g1 .nil) ⟨Kept.app _ _, fun U hU => by rw [List.mem_singleton] at hU; subst hU; exact Kept.app _ _⟩ g2
    simp only [WP]
    rw [hs.1]
    exact h4 (GPost S0 k .normal) ⟨hK.trans h1.1, tr', ts', h2, h1.2, h3⟩
  | drawl ds zs o =>
    intro S0 tr e ts S k hctx hK ht hs h
    obtain ⟨ts1, g1, g2⟩ := pushR_spec hs (show (pushR zs ts fun ts1 => fD det ts.len ds ds tr ts1 [ts1] fun tr' ts' => gO call ctx [o] tr' ts' fun tr' ts' => k .normal tr' ts') = true from h)
    obtain ⟨tr1, ts1', S1, e1, h1, h2, h3, h4⟩ := fD_spec (S0 := S) dok ht g1 (.cons g1 .nil) ⟨Kept.app _ _, fun U hU => by rw [List.mem_singleton] at hU; subst hU; exact Kept.app _ _⟩ g2
    simp only [WP]
    rw [hs.1]
    exact h4 (lastPost P o (GPost S0 k) .normal) (gO_spec ok hctx (hK.trans h1.1) h2 h1.2 h3)
  | seq a b iha ihb =>
    intro S0 tr e ts S k hctx hK ht hs h
    simp only [WP]
    refine WP_mono (fun x e1 S1 hx => ?_) (iha hctx hK ht hs (show gC det call ctx a tr ts (seqK k fun tr' ts' => gC det call ctx b tr' ts' k) = true from h))
    obtain ⟨hK', tr', ts', h1, h2, h3⟩ := hx
    cases x <;> first
      | exact ihb hctx hK' h1 h2 h3
      | exact ⟨hK', tr', ts', h1, h2, h3⟩
  | cond c a b iha ihb =>
    intro S0 tr e ts S k hctx hK ht hs h
    obtain ⟨v, h1, h2⟩ := opd_spec (x := c) (c := fun v => boolR v fun t => iteR t (gC det call ctx a tr ts k) (gC det call ctx b tr ts k)) ht h
    obtain ⟨t, rfl, h3⟩ := boolR_spec h2
    simp only [WP, h1]
    cases t
    · exact ⟨fun h => (by cases h), fun _ => ihb hctx hK ht hs h3⟩
    · exact ⟨fun _ => iha hctx hK ht hs h3, fun h => (by cases h)⟩
  | block id c ih =>
    intro S0 tr e ts S k hctx hK ht hs h
    simp only [WP]
    refine WP_mono (fun x e1 S1 hx => ?_) (ih hctx hK ht hs (show gC det call ctx c tr ts (blockK id k) = true from h))
    obtain ⟨hK', tr', ts', h1, h2, h3⟩ := hx
    cases x <;> simp only [pblock] <;> try exact ⟨hK', tr', ts', h1, h2, h3⟩
    rename_i i
    simp only [blockK, iteR_eq] at h3
    split at h3
    · rename_i hi
      rw [if_pos (beq_spec hi)]; exact ⟨hK', tr', ts', h1, h2, h3⟩
    · rename_i hi
      rw [if_neg (fun hh => hi (beq_iff'.2 hh))]; exact ⟨hK', tr', ts', h1, h2, h3⟩
  | scope c ih =>
    intro S0 tr e ts S k hctx hK ht hs h
    simp only [WP]
    refine WP_mono (fun x e1 S1 hx => ?_) (ih hctx hK ht hs (show gC det call ctx c tr ts (scopeK k) = true from h))
    obtain ⟨hK', tr', ts', h1, h2, h3⟩ := hx
    cases x <;> first
      | (exact (by cases h3))
      | exact ⟨hK', tr', ts', h1, h2, h3⟩
  | loop c ih =>
    intro S0 tr e ts S k hctx hK ht hs h
    exact loopW_wp (gloop_spec ih hctx loopMax hK ht hs (show loopF (gC det call ctx c) k loopMax tr ts = true from h))
  | exit id => intro S0 tr e ts S k hctx hK ht hs h; exact ⟨hK, tr, ts, ht, hs, h⟩
  | ret => intro S0 tr e ts S k hctx hK ht hs h; exact ⟨hK, tr, ts, ht, hs, h⟩
  | bad => intro S0 tr e ts S k hctx hK ht hs h; cases h
  | rf g ps asg body ca cb N tsl iha ihb =>
    intro S0 tr e ts S k hctx hK ht hs h
    obtain ⟨h1, h2⟩ := guard_spec (show iteR (andR ca.noRf (andR cb.noRf (ps.all fun p => decide (p < N)))) (opd g tr fun gv => match gv with
      | .fn (.func kf) fs cs => forceN ts.len fun l => call ((l, roundR (gC det call ctx ca) (gC det call ctx cb) ps (keepT tsl tr) l) :: ctx) kf (appR (appR fs [.yld l]) cs) (TS.push ⟨l, ts.tr⟩ (skL .ready none)) (afterK l tr k)
      | _ => false) false = true from h)
    obtain ⟨na, h3⟩ := andR_spec h1
    obtain ⟨nb, hps⟩ := andR_spec h3
    obtain ⟨gv, h4, h5⟩ := opd_spec ht h2
    simp only [WP]
    intro hca hcb
    rw [h4]
    split at h5 <;> try cases h5
    rename_i kf fs cs
    rw [forceN_eq, appR_eq, appR_eq] at h5
    have hlen := hs.1
    let i0 : LI := ⟨.ready, none, ps, asg, body, e.keep tsl, N⟩
    have hs1 : (TS.push ⟨ts.len, ts.tr⟩ (skL .ready none)).Abs (S ++ [Ob.loop i0]) := TS.push_abs' hs rfl
    have hl0 : (S ++ [Ob.loop i0])[S.length]? = some (Ob.loop i0) := by simp
    have hctx1 : CtxOk P ((ts.len, roundR (gC det call ctx ca) (gC det call ctx cb) ps (keepT tsl tr) ts.len) :: ctx) (S ++ [Ob.loop i0]) := by
      refine ⟨hctx.kept (hK.trans (Kept.app _ _)), i0, ⟨.ready, none, by rw [← hlen]; exact hl0⟩, fun args ts2 U c hU hl hs2 hr => ?_⟩
      exact roundR_spec (i0 := i0) iha ihb (keepT_sub ht tsl).1 hca hcb na nb hps hU hl hs2 hr
    have hspec := ok _ _ _ _ _ _ hctx1 hs1 h5
    rw [← hlen] at hspec
    refine ⟨_, hspec, fun r S' hr => ?_⟩
    obtain ⟨hK', ts', g1, g2⟩ := hr
    unfold afterK at g2
    obtain ⟨o, k1, k2⟩ := TS.get_spec g1 g2
    split at k2 <;> try cases k2
    rename_i i
    obtain ⟨j, j1, j2, j3⟩ := sk_loop k1
    obtain ⟨k3, k4⟩ := guard_spec k2
    have hKK : ∀ st p, Kept S0 (S'.set S.length (Ob.loop { j with st := st, pend := p })) := fun st p => hK.trans ((Kept.app S _).trans (hK'.trans (Kept.setLoop j1 st p)))
    refine ⟨j, j1, by rw [j2]; exact notBusy_spec k3, ?_⟩
    rw [j3]
    split at k4
    · rename_i hp
      rw [hp] at j3 ⊢
      exact ⟨hKK _ _, tr, _, ht, TS.set_abs' g1 j1 rfl, k4⟩
    · rename_i hp
      rw [hp] at j3 ⊢
      exact ⟨hKK _ _, tr, _, ht, TS.set_abs' g1 j1 rfl, k4⟩
    · rename_i id hp
      rw [hp] at j3 ⊢
      exact ⟨hKK _ _, tr, _, ht, TS.set_abs' g1 j1 rfl, k4⟩
    · cases k4

noncomputable def gF (T : Tb) (n : Nat) : GCall := Nat.rec (motive := fun _ => GCall) (fun _ _ _ _ _ => false)
  (fun n ih ctx k args ts c => Option.rec (Option.rec false (fun f => iteR (Nat.ble (lenR args) f.N) (gC (noCtx (dF T n)) ih ctx f.body (argTE args 0 .nil) ts (endK f.rs c)) false) (T.fn k)) (fun r => c r ts) (T.pr k args)) n

theorem gF_ok {P : Program} {T : Tb} (ok : T.Ok P) : ∀ n, GOk P (gF T n)
  | 0 => fun ctx k args ts S c _ hs h => by cases h
  | n + 1 => fun ctx k args ts S c hctx hs h => by
    have h0 : (Option.rec (Option.rec false (fun f => iteR (Nat.ble (lenR args) f.N) (gC (noCtx (dF T n)) (gF T n) ctx f.body (argTE args 0 .nil) ts (endK f.rs c)) false) (T.fn k)) (fun r => c r ts) (T.pr k args) : Bool) = true := h
    cases hp : T.pr k args with
    | some r =>
      rw [hp] at h0
      exact (ok.pr _ _ _ hp S).mono fun r' S' hr => by
        obtain ⟨rfl, rfl⟩ := hr
        exact ⟨Kept.refl _, ts, hs, h0⟩
    | none =>
      rw [hp] at h0
      cases hf : T.fn k with
      | none => rw [hf] at h0; cases h0
      | some f =>
        rw [hf] at h0
        obtain ⟨h1, h2⟩ := guard_spec (show iteR (Nat.ble (lenR args) f.N) (gC (noCtx (dF T n)) (gF T n) ctx f.body (argTE args 0 .nil) ts (endK f.rs c)) false = true from h0)
        rw [lenR_eq] at h1
        obtain ⟨fn, g1, g2⟩ := ok.fn _ _ hf
        have hsub : (argTE args 0 .nil).sub (argEnv 0 args) := by
          have := argTE_sub args 0 .nil [] (fun j v hj => by rw [Tx.get_nil] at hj; cases hj) (fun j v hj => by cases hj)
          simpa using this
        refine Spec.intro g1 g2 (ble_spec h1) (WP_mono (fun x e' S' hx => ?_) (gC_spec (noCtx_ok (dF_ok ok n)) (gF_ok ok n) f.body hctx (Kept.refl S) hsub hs h2))
        obtain ⟨hK, tr', ts', a1, a2, a3⟩ := hx
        cases x <;> first
          | (cases a3; done)
          | (obtain ⟨vs, b1, b2⟩ := rvsR_spec a1 a2 (show (rvsR f.rs tr' ts' fun vs => retR vs fun v => c v ts') = true from a3)
             rw [retR_eq] at b2
             exact ⟨vs, b1, retV vs, S', Ghost.refl _ _ _, hK, ts', a2, b2⟩)

/-- A run that is all right. -/
theorem gF_spec {P : Program} {T : Tb} (ok : T.Ok P) {n k : Nat} {args : List V} {ts : TS} {S : St} {c : V → TS → Bool} (hs : ts.Abs S) (h : gF T n [] k args ts c = true) : Spec P k args S (Out S c) := gF_ok ok n [] k args ts S c trivial hs h
end Go.Proofs.YtbifpocccfkhhaaGreatDoor
/- Runs on pure values: what they yield holds with every store. -/
namespace Go.Proofs.YtbifpocccfkhhaaGreatDoor
open Go

theorem Spec.ghost {P : Program} {f : FuncId} {args : List V} {R : V → St → Prop} {r : V} (h : Spec P f args [] R) (hg : ∀ v U, R v U → Ghost 0 v U r []) : Spec P f args [] (fun v U => v = r ∧ U = []) :=
  ⟨h.1, fun E w us n hs hv => (h.2 E w us n hs hv).mono fun e w' ⟨u, r0, E1, S1, h1, h2, h3, h4, h5, h6⟩ => by
    obtain ⟨E2, g1, g2, g3, g4⟩ := hg r0 S1 h2 E1 w' u h4 h3 (Nat.zero_le _)
    exact ⟨u, r, E2, [], h1, ⟨rfl, rfl⟩, g1, g2, h5.trans g3, Nat.zero_le _⟩⟩

theorem Spec.frame {P : Program} {f : FuncId} {args : List V} {r : V} (h : Spec P f args [] (fun v U => v = r ∧ U = [])) (ha : ∀ v, v ∈ args → v.under 0 = true) (hr : r.under 0 = true) (S : St) : Spec P f args S (fun v U => v = r ∧ U = S) := by
  refine ⟨h.1, fun E w us n hs hv => ?_⟩
  obtain ⟨c1, c2⟩ := hs.cut (m := 0) (fun o ho => by simp at ho) (Nat.zero_le _)
  have c1 : SR (E.cut 0) [] w := by simpa using c1
  have hv0 : VRs (E.cut 0) args us := ⟨hv.1, fun i v u h1 h2 => (hv.2 i v u h1 h2).cut (ha v (List.mem_of_getElem? h1))⟩
  refine (h.2 (E.cut 0) w us n c1 hv0).mono ?_
  rintro e w' ⟨u, r0, E1, S1, h1, ⟨rfl, rfl⟩, h3, h4, h5, h6⟩
  have hno : ∀ {E : En} {b : Nat}, ¬ own E [] b := by
    rintro E b ⟨l, st, x, ⟨o, ho, _⟩, _⟩
    simp at ho
  let E' : En := { I := E1.I, ρ := E.ρ }
  have hle : E.le E' := ⟨fun b o c hc => h5.I b o c hc, fun _ _ _ hx => hx⟩
  have hle1 : En.le (E1.cut 0) E' := ⟨fun b o c hc => hc, fun l st x hx => by simp [En.cut] at hx⟩
  have hown : ∀ b, own E' S b → own E S b := fun b ⟨l, st, x, hl, hx, he⟩ => ⟨l, st, x, hl, hx, he⟩
  have hI : ∀ b o c, E1.I b o = some c → E.I b o = some c ∨ w.heap.size ≤ b := fun b o c hc => by
    rcases h5.newI b o c hc with hc | hc | hc
    · exact .inl hc
    · exact absurd hc hno
    · exact .inr hc
  refine ⟨u, r0, E', S, h1, ⟨rfl, rfl⟩, (h3.cut hr).mono hle1, ⟨⟨h4.gl.1, h4.gl.2⟩, h4.I, fun l o hl => ?_, hs.dom, fun b o hb => ?_, fun b hb => ?_, fun l l' st st' x x' hl hl' hx hx' he => hs.inj l l' st st' x x' hl hl' hx hx' he⟩,
    ⟨h5.size, hle.1, fun _ _ _ _ hx => hx, fun _ _ hx => hx, fun b hb => .inl (hown b hb), fun b o c hc => (hI b o c hc).imp id .inr, fun b hb _ => h5.frame b hb hno, h5.out⟩, Nat.le_refl _⟩
  · by_cases hd : o = .dead
    · subst hd; trivial
    · exact (hs.obs l o hl).mono hle (fun _ _ hx => hx) fun st x hx => h5.frame _ (hs.lt _ ⟨l, st, x, ⟨o, hl, hd⟩, hx, rfl⟩) hno
  · cases hc : E'.I b o with
    | none => rfl
    | some c =>
      exfalso
      rcases hI b o c hc with h | h
      · rw [hs.apart b o (hown b hb)] at h; cases h
      · have := hs.lt b (hown b hb); omega
  · exact Nat.lt_of_lt_of_le (hs.lt b (hown b hb)) h5.size

/-- The value of a run, its arrays frozen, is the one that is wanted. -/
noncomputable def finG (r : V) (n : Nat) : V → TS → Bool := Nat.rec (motive := fun _ => V → TS → Bool) (fun _ _ => false)
  (fun _ ih v ts => match V.arrs 100 v with
    | [] => andR (V.same v r) (r.under 0)
    | l :: _ => ts.get l fun o => match o with
      | .arr xs _ wr => ih (v.frz l xs wr) (ts.set l .dead)
      | _ => false) n

theorem finG_spec {r : V} : ∀ (n : Nat) {v : V} {ts : TS} {S : St}, ts.Abs S → finG r n v ts = true → Ghost 0 v S r [] ∧ r.under 0 = true
  | 0, v, ts, S, _, h => by cases h
  | n + 1, v, ts, S, hs, h => by
    have h : (match V.arrs 100 v with
      | [] => andR (V.same v r) (r.under 0)
      | l :: _ => ts.get l fun o => match o with
        | .arr xs _ wr => finG r n (v.frz l xs wr) (ts.set l .dead)
        | _ => false) = true := h
    split at h
    · obtain ⟨h1, h2⟩ := andR_spec h
      have := same_spec _ _ h1
      subst this
      exact ⟨by simpa using Ghost.cut (n := 0) (m := 0) (S := S) h2 (fun o ho => by simp at ho) (Nat.le_refl _) (Nat.zero_le _), h2⟩
    · obtain ⟨o, h1, h2⟩ := TS.get_spec hs h
      split at h2 <;> try cases h2
      have h1 := sk_arr h1
      obtain ⟨g1, g2⟩ := finG_spec n (TS.set_abs hs h1) h2
      exact ⟨(Ghost.freezeV h1).trans g1, g2⟩

noncomputable def emptyTS : TS := ⟨0, .nil⟩
theorem emptyTS_abs : emptyTS.Abs [] := ⟨rfl, fun l hl => (Nat.not_lt_zero _ hl).elim⟩

/-- A call with pure arguments, and what it yields. -/
structure Pr where
  k : Nat
  args : List V
  r : V
def Pr.ok (P : Program) (p : Pr) : Prop := ∀ S, Spec P p.k p.args S (fun v U => v = p.r ∧ U = S)

noncomputable def Pr.find (k : Nat) (args : List V) (l : List Pr) : Option V := List.rec none (fun p _ ih => iteR (Nat.beq p.k k) (iteR (V.sames p.args args) (some p.r) ih) ih) l
theorem Pr.find_spec {P : Program} {k : Nat} {args : List V} {r : V} : ∀ {l : List Pr}, (∀ p, p ∈ l → p.ok P) → Pr.find k args l = some r → ∀ S, Spec P k args S (fun v U => v = r ∧ U = S)
  | [], _, h => by cases h
  | p :: l, ok, h => by
    have h : iteR (Nat.beq p.k k) (iteR (V.sames p.args args) (some p.r) (Pr.find k args l)) (Pr.find k args l) = some r := h
    rw [iteR_eq] at h
    split at h
    · rename_i hk
      rw [iteR_eq] at h
      split at h
      · rename_i ha
        cases h
        have h1 := beq_spec hk
        have h2 := sames_spec _ _ ha
        subst h1; subst h2
        exact ok p (by simp)
      · exact Pr.find_spec (fun q hq => ok q (by simp [hq])) h
    · exact Pr.find_spec (fun q hq => ok q (by simp [hq])) h

/-- A run on pure values is a contract. -/
theorem Pr.run {P : Program} {T : Tb} (ok : T.Ok P) (n : Nat) {p : Pr} (h : andR (andR (p.args.all fun v => v.under 0) (p.r.under 0)) (gF T n [] p.k p.args emptyTS (finG p.r 1000)) = true) : p.ok P := by
  obtain ⟨h1, h2⟩ := andR_spec h
  obtain ⟨h1, hr⟩ := andR_spec h1
  have hs := gF_spec (P := P) ok (S := []) emptyTS_abs h2
  simp only [List.all_eq_true] at h1
  exact (hs.ghost fun v U ⟨_, ts', g1, g2⟩ => (finG_spec 1000 g1 g2).1).frame h1 hr
end Go.Proofs.YtbifpocccfkhhaaGreatDoor
/- Proving contracts by rewriting: one step after the other, nothing ahead of its time. -/
namespace Go.Proofs.YtbifpocccfkhhaaGreatDoor
open Go

theorem endp_ret {rs : List RV} {n : Nat} {R : V → St → Prop} {e : Env} {S : St} {vs : List V} (h : rvs e S rs = some vs) (g : R (retV vs) S) : endp rs n R .ret e S := ⟨vs, h, _, _, Ghost.refl _ _ _, g⟩
theorem endp_normal {rs : List RV} {n : Nat} {R : V → St → Prop} {e : Env} {S : St} {vs : List V} (h : rvs e S rs = some vs) (g : R (retV vs) S) : endp rs n R .normal e S := ⟨vs, h, _, _, Ghost.refl _ _ _, g⟩

/-- A call with one outcome. -/
abbrev Fn (P : Program) (k : Nat) (args : List V) (S : St) (r : V) : Prop := Spec P k args S (fun v U => v = r ∧ U = S)

def wcall (P : Program) (k : Nat) (args : List V) (S : St) (Φ : V → St → Prop) : Prop := ∃ R, Spec P k args S R ∧ ∀ v S', R v S' → Φ v S'
def wyld (P : Program) (l : Nat) (args : List V) (S : St) (Φ : V → St → Prop) : Prop := ∃ R, YSpec P l args S R ∧ ∀ v S', R v S' → Φ v S'
def wnext (P : Program) (os : List O') (Q : Env → St → Prop) (e : Env) (d : Option Nat) (v : V) (S : St) : Prop := wops P os Q (e.put d v) S
def wres (r : Option (V × St)) (P : Program) (d : Option Nat) (k : K) (os : List O') (Q : Env → St → Prop) (e : Env) (S : St) : Prop := match r with
  | some (r, S') => wops P os Q (e.put d r) S'
  | none => (ndK e k ≠ [] ∧ ∀ v, v ∈ ndK e k → wops P os Q (e.put d v) S) ∨ (ndS e S k ≠ [] ∧ ∀ q, q ∈ ndS e S k → wops P os Q (e.put d q.1) q.2)
def wgd (g : Option Bool) (P : Program) (d : Option Nat) (k : K) (os : List O') (Q : Env → St → Prop) (e : Env) (S : St) : Prop := match g with
  | none => False
  | some false => wops P os Q (e.put d (.tup [])) S
  | some true => wops P (⟨d, none, k⟩ :: os) Q e S
def wcnd (c : Option V) (P : Program) (a b : C') (Q : Post) (e : Env) (S : St) : Prop := match c with
  | some (.bool true) => WP P a Q e S
  | some (.bool false) => WP P b Q e S
  | _ => False
def wtgt (f : Option V) (vs : Option (List V)) (P : Program) (d : Option Nat) (os : List O') (Q : Env → St → Prop) (e : Env) (S : St) : Prop := match f, vs with
  | some (.fn (.func k) fs cs), some vs => wcall P k (fs ++ vs ++ cs) S (wnext P os Q e d)
  | some (.yld l), some vs => wyld P l vs S (wnext P os Q e d)
  | _, _ => False

theorem wnext_eq {P : Program} {os : List O'} {Q : Env → St → Prop} {e : Env} {d : Option Nat} {v : V} {S : St} : wnext P os Q e d v S = wops P os Q (e.put d v) S := (rfl)
theorem wres_some {P : Program} {d : Option Nat} {k : K} {os : List O'} {Q : Env → St → Prop} {e : Env} {r : V} {S S' : St} : wres (some (r, S')) P d k os Q e S = wops P os Q (e.put d r) S' := (rfl)
theorem wgd_false {P : Program} {d : Option Nat} {k : K} {os : List O'} {Q : Env → St → Prop} {e : Env} {S : St} : wgd (some false) P d k os Q e S = wops P os Q (e.put d (.tup [])) S := (rfl)
theorem wgd_true {P : Program} {d : Option Nat} {k : K} {os : List O'} {Q : Env → St → Prop} {e : Env} {S : St} : wgd (some true) P d k os Q e S = wops P (⟨d, none, k⟩ :: os) Q e S := (rfl)
theorem wcnd_true {P : Program} {a b : C'} {Q : Post} {e : Env} {S : St} : wcnd (some (.bool true)) P a b Q e S = WP P a Q e S := (rfl)
theorem wcnd_false {P : Program} {a b : C'} {Q : Post} {e : Env} {S : St} : wcnd (some (.bool false)) P a b Q e S = WP P b Q e S := (rfl)
theorem wtgt_fn {P : Program} {k : Nat} {fs cs vs : List V} {d : Option Nat} {os : List O'} {Q : Env → St → Prop} {e : Env} {S : St} : wtgt (some (.fn (.func k) fs cs)) (some vs) P d os Q e S = wcall P k (fs ++ vs ++ cs) S (wnext P os Q e d) := (rfl)
theorem wtgt_yld {P : Program} {l : Nat} {vs : List V} {d : Option Nat} {os : List O'} {Q : Env → St → Prop} {e : Env} {S : St} : wtgt (some (.yld l)) (some vs) P d os Q e S = wyld P l vs S (wnext P os Q e d) := (rfl)

theorem wops_nil {P : Program} {Q : Env → St → Prop} {e : Env} {S : St} : wops P [] Q e S = Q e S := (rfl)
theorem wops_guard {P : Program} {d : Option Nat} {g : Nat × Bool} {k : K} {os : List O'} {Q : Env → St → Prop} {e : Env} {S : St} : wops P (⟨d, some g, k⟩ :: os) Q e S = wgd (wantedV e (some g)) P d k os Q e S := by
  unfold wgd
  cases h : wantedV e (some g) with
  | none => simp only [wops, h]
  | some b => cases b <;> simp only [wops, h] <;> rfl
theorem wops_call {P : Program} {d : Option Nat} {f : Opd} {args : List Opd} {os : List O'} {Q : Env → St → Prop} {e : Env} {S : St} : wops P (⟨d, none, .call f args⟩ :: os) Q e S = wtgt (f.ev e) (evs e args) P d os Q e S := (rfl)
theorem wops_plain {P : Program} {d : Option Nat} {k : K} {os : List O'} {Q : Env → St → Prop} {e : Env} {S : St} (h : ∀ f args, k ≠ .call f args) : wops P (⟨d, none, k⟩ :: os) Q e S = wres (evK e S k) P d k os Q e S := by
  cases k <;> first | rfl | exact absurd rfl (h _ _)

theorem useFn {P : Program} {k : Nat} {args : List V} {S : St} {r : V} {Φ : V → St → Prop} (h : Fn P k args S r) (g : Φ r S) : wcall P k args S Φ :=
  ⟨_, h, fun _ _ hh => by obtain ⟨rfl, rfl⟩ := hh; exact g⟩
theorem useSpec {P : Program} {k : Nat} {args : List V} {S : St} {R : V → St → Prop} {Φ : V → St → Prop} (h : Spec P k args S R) (g : ∀ v U, R v U → Φ v U) : wcall P k args S Φ := ⟨_, h, g⟩

theorem WP_skip {P : Program} {Q : Post} {e : Env} {S : St} : WP P .skip Q e S = Q .normal e S := (rfl)
theorem WP_reg {P : Program} {ops : List O'} {Q : Post} {e : Env} {S : St} : WP P (.reg ops) Q e S = wops P ops (Q .normal) e S := (rfl)
theorem WP_seq {P : Program} {a b : C'} {Q : Post} {e : Env} {S : St} : WP P (.seq a b) Q e S = WP P a (pthen (WP P b Q) Q) e S := (rfl)
theorem WP_cond {P : Program} {c : Opd} {a b : C'} {Q : Post} {e : Env} {S : St} : WP P (.cond c a b) Q e S = wcnd (c.ev e) P a b Q e S := by
  unfold wcnd
  simp only [WP]
  cases c.ev e with
  | none => rfl
  | some v => cases v <;> first | rfl | (rename_i b; cases b <;> simp)
theorem WP_block {P : Program} {id : Nat} {c : C'} {Q : Post} {e : Env} {S : St} : WP P (.block id c) Q e S = WP P c (pblock id Q) e S := (rfl)
theorem WP_scope {P : Program} {c : C'} {Q : Post} {e : Env} {S : St} : WP P (.scope c) Q e S = WP P c (pscope Q) e S := (rfl)
theorem WP_exit {P : Program} {id : Nat} {Q : Post} {e : Env} {S : St} : WP P (.exit id) Q e S = Q (.exit id) e S := (rfl)
theorem WP_ret {P : Program} {Q : Post} {e : Env} {S : St} : WP P .ret Q e S = Q .ret e S := (rfl)
theorem WP_loop {P : Program} {c : C'} {Q : Post} {e : Env} {S : St} (I : Nat → Env → St → Prop) (n0 : Nat) (e0 : Env) (hs : Env.sub e0 e) (h0 : I n0 e0 S)
    (h : ∀ n e S, I n e S → WP P c (pthen (fun e S => ∃ n', n' < n ∧ ∃ e', Env.sub e' e ∧ I n' e' S) Q) e S) : WP P (.loop c) Q e S := ⟨I, n0, ⟨e0, hs, h0⟩, h⟩

theorem pthen_normal {N : Env → St → Prop} {Q : Post} {e : Env} {S : St} : pthen N Q .normal e S = N e S := (rfl)
theorem Env.sub_nil (e : Env) : Env.sub [] e := fun t v h => by simp [Env.get] at h
theorem Env.sub_cons {e e' : Env} {k : Nat} {v : V} (h : e.get k = some v) (g : Env.sub e' e) : Env.sub ((k, v) :: e') e := fun t u hu => by
  simp only [Env.get] at hu
  split at hu
  · rename_i hk; subst hk; cases hu; exact h
  · exact g _ _ hu

theorem i64_small {n : Int} (h0 : -9223372036854775808 ≤ n) (h1 : n ≤ 9223372036854775807) : IntKind.i64.wrap n = n := by rw [IntKind.wrap_i64]; omega

theorem strEq_iff (a b : ByteArray) : strEq a b = decide (a = b) := by
  unfold strEq
  by_cases h : a = b
  · subst h; simp
  · have : ¬ a.toList = b.toList := fun hh => h (by
      rw [toList_data, toList_data] at hh
      exact ByteArray.ext (Array.ext' hh))
    simp [h, this]

theorem iaStr {l : List ByteArray} {i : Nat} (h : i < l.length) (b : Bool) (S : St) : iaS S 1 (.sl b (l.map .str)) i = some (.iptr (.str l[i]) 0) := by simp [iaS, h, V.size, V.cells]
theorem ldStr (s : ByteArray) (S : St) : ldS S (.iptr (.str s) 0) none = some (.str s) := rfl
theorem strV_eql (a b : ByteArray) : strV .eql a b = some (.bool (decide (a = b))) := by simp [strV, strEq_iff]
theorem strV_neq (a b : ByteArray) : strV .neq a b = some (.bool (!decide (a = b))) := by simp [strV, strEq_iff]

theorem idxS {s : ByteArray} {i : Nat} (h : i < s.size) : idxV s i = some (.int .u8 (s.data[i]'h).toNat) := by
  have h1 : (s[(i : Int).toNat]? : Option UInt8) = some s[i] := getElem?_pos s i h
  unfold idxV
  rw [h1]
  simp [ByteArray.getElem_eq_getElem_data]
theorem idxS0 {s : ByteArray} (h : 0 < s.size) : idxV s 0 = some (.int .u8 (s.data[0]'h).toNat) := by
  have := idxS h
  simpa using this

attribute [simp] WP_skip WP_reg WP_seq WP_cond WP_block WP_scope WP_exit WP_ret wnext_eq wres_some wgd_false wgd_true wcnd_true wcnd_false wtgt_fn wtgt_yld wops_nil wops_guard wops_call wops_plain pthen_normal pthen pblock
  wantedV evK evs Opd.ev Env.get Env.put argEnv binV intV unV rvs retV ldStr strV_eql strV_neq
end Go.Proofs.YtbifpocccfkhhaaGreatDoor
