/- Fast runs: functions. -/
import Derived.Test.YtbifpocccfkhhaaGreatDoorLag
namespace Go.Proofs.YtbifpocccfkhhaaGreatDoor
open Go

/-- The records of loops stay, but for their states. -/
def Kept (S S' : St) : Prop := ∀ (l : Nat) (i : LI), S[l]? = some (Ob.loop i) → ∃ st pend, S'[l]? = some (Ob.loop { i with st := st, pend := pend })
theorem Kept.refl (S : St) : Kept S S := fun l i h => ⟨i.st, i.pend, h⟩
theorem Kept.trans {S S1 S2 : St} (h : Kept S S1) (g : Kept S1 S2) : Kept S S2 := fun l i hl => by
  obtain ⟨st, p, h1⟩ := h l i hl
  obtain ⟨st', p', h2⟩ := g l _ h1
  exact ⟨st', p', h2⟩
theorem Kept.app (S T : St) : Kept S (S ++ T) := fun l i h => ⟨i.st, i.pend, by rw [List.getElem?_append_left (List.getElem?_eq_some_iff.1 h).1]; exact h⟩
theorem Kept.set {S : St} {l : Nat} {o o' : Ob} (h : S[l]? = some o) (hn : ∀ i : LI, o ≠ Ob.loop i) : Kept S (S.set l o') := fun j i hj => by
  by_cases hk : l = j
  · subst hk; rw [h] at hj; cases hj; exact absurd rfl (hn i)
  · exact ⟨i.st, i.pend, by rw [List.getElem?_set_ne hk]; exact hj⟩

theorem evX_kept {e : Env} {S S' : St} {k : X} {r : V} (h : evX e S k = some (r, S')) : Kept S S' := by
  by_cases hw : k.writes = true
  · cases k <;> simp only [X.writes, Bool.false_eq_true] at hw <;> simp only [evX] at h
    case mup kd x y z =>
      split at h <;> try cases h
      rename_i m key val _ _ _
      simp only [Option.map_eq_some_iff, Prod.mk.injEq] at h
      obtain ⟨S1, h1, _, rfl⟩ := h
      unfold mupS at h1
      split at h1 <;> try cases h1
      split at h1 <;> try cases h1
      split at h1 <;> try cases h1
      rename_i hl
      split at h1 <;> cases h1 <;> exact Kept.set hl (fun i => by simp)
    case mkm => cases h; exact Kept.app _ _
    case mks sz b z l c =>
      split at h <;> try cases h
      unfold mksS at h
      split at h <;> cases h
      exact Kept.app _ _
    case rng x =>
      simp only [Option.bind_eq_some_iff] at h
      obtain ⟨v, _, h⟩ := h
      unfold rngS at h
      split at h <;> try cases h
      split at h <;> cases h
      exact Kept.app _ _
    case nxt x => cases h
    case del kd x y =>
      split at h <;> try cases h
      simp only [Option.map_eq_some_iff, Prod.mk.injEq] at h
      obtain ⟨S1, h1, _, rfl⟩ := h
      unfold delS at h1
      split at h1 <;> try cases h1
      split at h1 <;> try cases h1
      split at h1 <;> try cases h1
      rename_i hl
      split at h1 <;> cases h1 <;> exact Kept.set hl (fun i => by simp)
  · have := evX_same (by simpa using hw) h
    subst this; exact Kept.refl _

theorem evK_kept {e : Env} {S S' : St} {k : K} {r : V} (h : evK e S k = some (r, S')) : Kept S S' := by
  by_cases hw : k.writes = true
  · cases k <;> simp only [K.writes, Bool.false_eq_true] at hw <;> simp only [evK] at h
    case new z =>
      unfold boxS at h
      split at h <;> cases h
      exact Kept.app _ _
    case box x =>
      simp only [Option.bind_eq_some_iff] at h
      obtain ⟨v, _, h⟩ := h
      unfold boxS at h
      split at h <;> cases h
      exact Kept.app _ _
    case sto n a x =>
      split at h <;> try cases h
      simp only [Option.map_eq_some_iff, Prod.mk.injEq] at h
      obtain ⟨S1, h1, _, rfl⟩ := h
      unfold stS at h1
      split at h1 <;> try cases h1
      split at h1 <;> try cases h1
      rename_i hl
      split at h1 <;> try cases h1
      simp only [Option.bind_eq_some_iff, Option.map_eq_some_iff] at h1
      obtain ⟨_, _, _, _, rfl⟩ := h1
      exact Kept.set hl (fun i => by simp)
    case app sz b d x =>
      split at h <;> try cases h
      unfold appS at h
      split at h
      · cases h
      · split at h
        · split at h
          · cases h; exact Kept.refl _
          · split at h <;> cases h; exact Kept.app _ _
        · split at h <;> try cases h
          rename_i hl
          split at h <;> cases h
          exact Kept.set hl (fun i => by simp)
        · cases h
    case call => cases h
    case ex k => exact evX_kept h
  · have := evK_same (by simpa using hw) h
    subst this; exact Kept.refl _

theorem nxtS_kept {S : St} {p : V} {q : V × St} (h : q ∈ nxtS S p) : Kept S q.2 := by
  unfold nxtS at h
  split at h <;> try cases h
  split at h <;> try cases h
  rename_i hl
  split at h <;> try cases h
  split at h <;> try cases h
  split at h
  · rw [List.mem_singleton] at h; subst h; exact Kept.refl _
  · obtain ⟨q', _, rfl⟩ := List.mem_map.1 h
    exact Kept.set hl (fun i => by simp)
theorem ndS_kept {e : Env} {S : St} {k : K} {q : V × St} (h : q ∈ ndS e S k) : Kept S q.2 := by
  unfold ndS at h
  split at h
  · split at h
    · exact nxtS_kept h
    · cases h
  · cases h

noncomputable def keepR (ts : List Nat) (tr : TE) : (Env → Bool) → Bool := List.rec (motive := fun _ => (Env → Bool) → Bool) (fun c => c []) (fun t _ ih c => optR (Tx.get (path t) tr) fun v => ih fun e => c ((t, v) :: e)) ts
theorem keepR_spec {tr : TE} {e : Env} (ht : tr.sub e) : ∀ {ts : List Nat} {c : Env → Bool}, keepR ts tr c = true → ∃ e0, Agree ts e0 e ∧ c e0 = true
  | [], c, h => ⟨[], fun t h => (by cases h), h⟩
  | t :: ts, c, h => by
    obtain ⟨v, h1, h2⟩ := optR_spec (show (optR (Tx.get (path t) tr) fun v => keepR ts tr fun e => c ((t, v) :: e)) = true from h)
    obtain ⟨e0, h3, h4⟩ := keepR_spec ht h2
    refine ⟨_, fun s hs => ?_, h4⟩
    simp only [Env.get]
    by_cases hst : t = s
    · subst hst; rw [if_pos rfl]; exact ht t v h1
    · rw [if_neg hst]
      rcases List.mem_cons.1 hs with rfl | hs
      · exact absurd rfl hst
      · exact h3 s hs

noncomputable def opXgen (x : X) (tr : TE) (ts : TS) (c : V → TS → Bool) : Bool := iteR x.reads false (keepR x.tmps tr fun e => optR (evX e [] x) fun p => c p.1 ts)
theorem opXgen_spec {x : X} {tr : TE} {e : Env} {ts : TS} {S : St} {c : V → TS → Bool} (ht : tr.sub e) (hs : ts.Abs S) (h : opXgen x tr ts c = true) : Done e S (.ex x) c := by
  unfold opXgen at h
  rw [iteR_eq] at h
  split at h
  · cases h
  · rename_i hr
    simp only [Bool.not_eq_true] at hr
    obtain ⟨e0, h1, h2⟩ := keepR_spec ht h
    obtain ⟨p, h3, h4⟩ := optR_spec h2
    refine ⟨p.1, S, ts, ?_, hs, h4⟩
    simp only [evK]
    rw [evX_agree h1, evX_pure (S := []) hr, h3]; rfl

noncomputable def opX (x : X) : TE → TS → (V → TS → Bool) → Bool :=
  match x with
  | .lkp kd z ok x k => fun tr ts c => opd x tr fun m => opd k tr fun key => lkpOp kd z ok m key ts fun r => c r ts
  | .mup kd x k v => fun tr ts c => opd x tr fun m => opd k tr fun key => opd v tr fun val => mupOp kd m key val ts fun ts' => c (.tup []) ts'
  | .mkm => fun _ ts c => forceN ts.len fun n => c (.map n) (TS.push ⟨n, ts.tr⟩ (.map [] [] 0))
  | .mks sz bytes z l cp => fun tr ts c => opd l tr fun lv => opd cp tr fun cv => intR lv fun li => intR cv fun ci =>
      iteR (mksS [] sz bytes z li ci).isSome (forceN ts.len fun n => natR li fun m => c (.arr n 0 m m) (TS.push ⟨n, ts.tr⟩ (.arr (List.replicate m z) sz m))) false
  | .cts x => fun tr ts c => opd x tr fun p => elemsR p ts fun xs => optR (bytesOf xs) fun bs => c (.str ⟨⟨bs⟩⟩) ts
  | .rng x => fun tr ts c => opd x tr fun v => rngOp v ts c
  | .ent x => fun tr ts c => opd x tr fun v => entOp v ts fun r => c r ts
  | .del kd x k => fun tr ts c => opd x tr fun m => opd k tr fun key => delOp kd m key ts fun ts' => c (.tup []) ts'
  | .wrap n x => fun tr ts c => opd x tr fun v => iteR (andR (Nat.beq (sizeR v) n) (flatsR v.cells)) (c (.agg v.cells) ts) false
  | .ixa n sz kd x i => fun tr ts c => opd x tr fun v => opd i tr fun iv => intR iv fun ix => natR ix fun m => iteR (andR v.isAgg (Nat.ble (Nat.succ m) n)) (optR (partR v (Nat.mul m sz) kd) fun r => c r ts) false
  | x => opXgen x
theorem opX_spec {x : X} {tr : TE} {e : Env} {ts : TS} {S : St} {c : V → TS → Bool} (ht : tr.sub e) (hs : ts.Abs S) (h : opX x tr ts c = true) : Done e S (.ex x) c := by
  unfold opX at h
  split at h
  · obtain ⟨m, h1, h2⟩ := opd_spec ht h
    obtain ⟨key, h3, h4⟩ := opd_spec ht h2
    obtain ⟨r, h5, h6⟩ := lkpOp_spec hs h4
    exact ⟨r, S, ts, by simp only [evK, evX, h1, h3, h5, Option.map_some], hs, h6⟩
  · obtain ⟨m, h1, h2⟩ := opd_spec ht h
    obtain ⟨key, h3, h4⟩ := opd_spec ht h2
    obtain ⟨val, h5, h6⟩ := opd_spec ht h4
    obtain ⟨S', ts', h7, h8, h9⟩ := mupOp_spec hs h6
    exact ⟨_, S', ts', by simp only [evK, evX, h1, h3, h5, h7, Option.map_some], h8, h9⟩
  · rw [forceN_eq] at h
    exact ⟨_, _, _, by simp only [evK, evX]; rw [hs.1], TS.push_abs hs, h⟩
  · obtain ⟨lv, h1, h2⟩ := opd_spec ht h
    obtain ⟨cv, h3, h4⟩ := opd_spec ht h2
    obtain ⟨kl, li, rfl, h5⟩ := intR_spec h4
    obtain ⟨kc, ci, rfl, h6⟩ := intR_spec h5
    obtain ⟨h7, h8⟩ := guard_spec h6
    rw [forceN_eq] at h8
    obtain ⟨m, rfl, h9⟩ := natR_spec h8
    refine ⟨_, _, _, ?_, TS.push_abs hs, h9⟩
    simp only [evK, evX, h1, h3]
    unfold mksS at h7 ⊢
    split at h7
    · rename_i hc
      rw [if_pos hc, hs.1, Int.toNat_natCast]
    · cases h7
  · obtain ⟨p, h1, h2⟩ := opd_spec ht h
    obtain ⟨xs, h3, h4⟩ := elemsR_spec hs h2
    obtain ⟨bs, h5, h6⟩ := optR_spec h4
    exact ⟨_, S, ts, by simp only [evK, evX, h1, Option.bind_some, ctsV, h3, h5, Option.map_some], hs, h6⟩
  · obtain ⟨v, h1, h2⟩ := opd_spec ht h
    obtain ⟨r, S', ts', h3, h4, h5⟩ := rngOp_spec hs h2
    exact ⟨r, S', ts', by simp only [evK, evX, h1, Option.bind_some, h3], h4, h5⟩
  · obtain ⟨v, h1, h2⟩ := opd_spec ht h
    obtain ⟨r, h3, h4⟩ := entOp_spec hs h2
    exact ⟨r, S, ts, by simp only [evK, evX, h1, Option.bind_some, h3, Option.map_some], hs, h4⟩
  · obtain ⟨m, h1, h2⟩ := opd_spec ht h
    obtain ⟨key, h3, h4⟩ := opd_spec ht h2
    obtain ⟨S', ts', h5, h6, h7⟩ := delOp_spec hs h4
    exact ⟨_, S', ts', by simp only [evK, evX, h1, h3, h5, Option.map_some], h6, h7⟩
  · obtain ⟨v, h1, h2⟩ := opd_spec ht h
    obtain ⟨h3, h4⟩ := guard_spec h2
    obtain ⟨h5, h6⟩ := andR_spec h3
    rw [sizeR_eq] at h5
    rw [flatsR_eq] at h6
    exact ⟨_, S, ts, by simp only [evK, evX, h1, Option.bind_some]; exact if_pos ⟨beq_spec h5, h6⟩, hs, h4⟩
  · obtain ⟨v, h1, h2⟩ := opd_spec ht h
    obtain ⟨iv, h3, h4⟩ := opd_spec ht h2
    obtain ⟨kk, ix, rfl, h5⟩ := intR_spec h4
    obtain ⟨m, rfl, h6⟩ := natR_spec h5
    obtain ⟨h7, h8⟩ := guard_spec h6
    obtain ⟨h9, h10⟩ := andR_spec h7
    obtain ⟨r, h11, h12⟩ := optR_spec h8
    rw [partR_eq] at h11
    have h10 := ble_spec h10
    refine ⟨r, S, ts, ?_, hs, h12⟩
    simp only [evK, evX, h1, h3]
    rw [if_pos ⟨h9, by omega, by omega⟩, Int.toNat_natCast, show m * _ = Nat.mul m _ from rfl, h11]; rfl
  · exact opXgen_spec ht hs h

abbrev CallT := Nat → List V → TS → (V → TS → Bool) → Bool

noncomputable def opK (k : K) : TE → TS → (V → TS → Bool) → Bool :=
  match k with
  | .mv x => fun tr ts c => opd x tr fun v => c v ts
  | .pick x a b => fun tr ts c => opd x tr fun v => boolR v fun t => iteR t (opd a tr fun v => c v ts) (opd b tr fun v => c v ts)
  | .new z => fun _ ts c => boxR z ts c
  | .box x => fun tr ts c => opd x tr fun v => boxR v ts c
  | .build z ps => fun tr ts c => buildR ps tr z fun v => c v ts
  | .bsl sz xs => fun tr ts c => evsR xs tr fun l => iteR (andR (fitsR sz l) (Nat.ble (Nat.mul (lenR l) sz) 16777216)) (c (.sl true l) ts) false
  | .ld k a => fun tr ts c => opd a tr fun p => ldR p k ts fun v => c v ts
  | .sto n a x => fun tr ts c => opd a tr fun p => opd x tr fun v => stR p n v ts fun ts' => c (.tup []) ts'
  | .nck x => fun tr ts c => opd x tr fun v => iteR (isTgt v) (c v ts) false
  | .bin op x y => fun tr ts c => opd x tr fun u => opd y tr fun v => binR' op u v fun r => c r ts
  | .eq kd neg x y => fun tr ts c => opd x tr fun u => opd y tr fun v => iteR (eqOk kd u v) (optR (eqV u v) fun b => c (.bool (iteR neg (notR b) b)) ts) false
  | .un op x => fun tr ts c => opd x tr fun v => optR (unV op v) fun r => c r ts
  | .fa off x => fun tr ts c => opd x tr fun v => optR (faV v off) fun r => c r ts
  | .ia sz x i => fun tr ts c => opd x tr fun p => opd i tr fun iv => intR iv fun ix => iaR sz p ix ts fun r => c r ts
  | .idx x i => fun tr ts c => opd x tr fun p => opd i tr fun iv => intR iv fun ix => idxR p ix fun r => c r ts
  | .fld off k x => fun tr ts c => opd x tr fun v => iteR v.isAgg (optR (partR v off k) fun r => c r ts) false
  | .slc s sz x lo hi => fun tr ts c => opd x tr fun d => intOptR lo tr fun l => intOptR hi tr fun h => slcR s sz d l h ts fun r => c r ts
  | .ext i x => fun tr ts c => opd x tr fun v => match v with
    | .tup vs => optR (nthR vs i) fun r => c r ts
    | _ => false
  | .len s x => fun tr ts c => opd x tr fun v => lenOp s v fun r => c r ts
  | .app sz bytes d x => fun tr ts c => opd d tr fun u => opd x tr fun v => appOp sz bytes u v ts c
  | .mkf k fs cs => fun tr ts c => evsR fs tr fun us => evsR cs tr fun vs => c (.fn (.func k) us vs) ts
  | .conv k x => fun tr ts c => opd x tr fun v => intR v fun n => c (.int k (wrapR k n)) ts
  | .call _ _ => fun _ _ _ => false
  | .ex x => opX x

theorem opK_spec {k : K} {tr : TE} {e : Env} {ts : TS} {S : St} {c : V → TS → Bool} (ht : tr.sub e) (hs : ts.Abs S) (h : opK k tr ts c = true) : Done e S k c := by
  cases k <;> simp only [opK] at h
  case mv x =>
    obtain ⟨v, h1, h2⟩ := opd_spec ht h
    exact ⟨v, S, ts, by simp only [evK, h1, Option.map_some], hs, h2⟩
  case pick x a b =>
    obtain ⟨v, h1, h2⟩ := opd_spec ht h
    obtain ⟨t, rfl, h3⟩ := boolR_spec h2
    rw [iteR_eq] at h3
    cases t
    · obtain ⟨r, h4, h5⟩ := opd_spec ht (by simpa using h3)
      exact ⟨r, S, ts, by simp only [evK, h1]; simp [h4], hs, h5⟩
    · obtain ⟨r, h4, h5⟩ := opd_spec ht (by simpa using h3)
      exact ⟨r, S, ts, by simp only [evK, h1]; simp [h4], hs, h5⟩
  case new z => exact boxR_spec hs h
  case box x =>
    obtain ⟨v, h1, h2⟩ := opd_spec ht h
    obtain ⟨r, S', ts', h3, h4, h5⟩ := boxR_spec hs h2
    exact ⟨r, S', ts', by simp only [evK, h1, Option.bind_some, h3], h4, h5⟩
  case build z ps =>
    obtain ⟨l, r, h1, h2, h3⟩ := buildR_spec ht h
    exact ⟨r, S, ts, by simp only [evK, h1, Option.bind_some, h2, Option.map_some], hs, h3⟩
  case bsl sz xs =>
    obtain ⟨l, h1, h2⟩ := evsR_spec ht h
    obtain ⟨h3, h4⟩ := guard_spec h2
    obtain ⟨h5, h6⟩ := andR_spec h3
    rw [fitsR_eq] at h5
    rw [lenR_eq] at h6
    exact ⟨_, S, ts, by simp only [evK, h1, Option.bind_some]; exact if_pos ⟨h5, ble_spec h6⟩, hs, h4⟩
  case ld k a =>
    obtain ⟨p, h1, h2⟩ := opd_spec ht h
    obtain ⟨v, h3, h4⟩ := ldR_spec hs h2
    exact ⟨v, S, ts, by simp only [evK, h1, Option.bind_some, h3, Option.map_some], hs, h4⟩
  case sto n a x =>
    obtain ⟨p, h1, h2⟩ := opd_spec ht h
    obtain ⟨v, h3, h4⟩ := opd_spec ht h2
    obtain ⟨S', ts', h5, h6, h7⟩ := stR_spec hs h4
    exact ⟨_, S', ts', by simp only [evK, h1, h3, h5, Option.map_some], h6, h7⟩
  case nck x =>
    obtain ⟨v, h1, h2⟩ := opd_spec ht h
    obtain ⟨h3, h4⟩ := guard_spec h2
    exact ⟨v, S, ts, by simp only [evK, h1, Option.bind_some]; exact if_pos h3, hs, h4⟩
  case bin op x y =>
    obtain ⟨u, h1, h2⟩ := opd_spec ht h
    obtain ⟨v, h3, h4⟩ := opd_spec ht h2
    obtain ⟨r, h5, h6⟩ := binR'_spec h4
    exact ⟨r, S, ts, by simp only [evK, h1, h3, h5, Option.map_some], hs, h6⟩
  case eq kd neg x y =>
    obtain ⟨u, h1, h2⟩ := opd_spec ht h
    obtain ⟨v, h3, h4⟩ := opd_spec ht h2
    obtain ⟨h5, h6⟩ := guard_spec h4
    obtain ⟨b, h7, h8⟩ := optR_spec h6
    rw [iteR_eq, notR_eq] at h8
    exact ⟨_, S, ts, by simp only [evK, h1, h3]; rw [if_pos h5, h7]; rfl, hs, h8⟩
  case un op x =>
    obtain ⟨v, h1, h2⟩ := opd_spec ht h
    obtain ⟨r, h3, h4⟩ := optR_spec h2
    exact ⟨r, S, ts, by simp only [evK, h1, Option.bind_some, h3, Option.map_some], hs, h4⟩
  case fa off x =>
    obtain ⟨v, h1, h2⟩ := opd_spec ht h
    obtain ⟨r, h3, h4⟩ := optR_spec h2
    exact ⟨r, S, ts, by simp only [evK, h1, Option.bind_some, h3, Option.map_some], hs, h4⟩
  case ia sz x i =>
    obtain ⟨p, h1, h2⟩ := opd_spec ht h
    obtain ⟨v, h3, h4⟩ := opd_spec ht h2
    obtain ⟨k, n, rfl, h5⟩ := intR_spec h4
    obtain ⟨r, h6, h7⟩ := iaR_spec hs h5
    exact ⟨r, S, ts, by simp only [evK, h1, h3, h6, Option.map_some], hs, h7⟩
  case idx x i =>
    obtain ⟨p, h1, h2⟩ := opd_spec ht h
    obtain ⟨v, h3, h4⟩ := opd_spec ht h2
    obtain ⟨k, n, rfl, h5⟩ := intR_spec h4
    obtain ⟨s, r, rfl, h6, h7⟩ := idxR_spec h5
    exact ⟨r, S, ts, by simp only [evK, h1, h3, h6, Option.map_some], hs, h7⟩
  case fld off k x =>
    obtain ⟨v, h1, h2⟩ := opd_spec ht h
    obtain ⟨h3, h4⟩ := guard_spec h2
    obtain ⟨r, h5, h6⟩ := optR_spec h4
    rw [partR_eq] at h5
    exact ⟨r, S, ts, by simp only [evK, h1, Option.bind_some]; rw [if_pos h3, h5]; rfl, hs, h6⟩
  case slc s sz x lo hi =>
    obtain ⟨d, h1, h2⟩ := opd_spec ht h
    obtain ⟨l, h3, h4⟩ := intOptR_spec ht h2
    obtain ⟨r, h5, h6⟩ := intOptR_spec ht h4
    obtain ⟨w, h7, h8⟩ := slcR_spec hs h6
    exact ⟨w, S, ts, by simp only [evK, h1, h3, h5]; exact h7, hs, h8⟩
  case ext i x =>
    obtain ⟨v, h1, h2⟩ := opd_spec ht h
    split at h2 <;> try cases h2
    obtain ⟨r, h3, h4⟩ := optR_spec h2
    rw [nthR_eq] at h3
    exact ⟨r, S, ts, by simp only [evK, h1, h3, Option.map_some], hs, h4⟩
  case len s x =>
    obtain ⟨v, h1, h2⟩ := opd_spec ht h
    unfold lenOp at h2
    split at h2
    · obtain ⟨rfl, h3⟩ := guard_spec h2
      rw [sizeS_eq] at h3
      exact ⟨_, S, ts, by simp only [evK, h1, Option.bind_some]; rfl, hs, h3⟩
    · rw [iteR_eq] at h2
      split at h2
      · cases h2
      · rename_i hb
        simp only [Bool.not_eq_true] at hb; subst hb
        rw [lenR_eq] at h2
        exact ⟨_, S, ts, by simp only [evK, h1, Option.bind_some]; rfl, hs, h2⟩
    · rw [iteR_eq] at h2
      split at h2
      · cases h2
      · rename_i hb
        simp only [Bool.not_eq_true] at hb; subst hb
        exact ⟨_, S, ts, by simp only [evK, h1, Option.bind_some]; rfl, hs, h2⟩
    · cases h2
  case app sz bytes d x =>
    obtain ⟨u, h1, h2⟩ := opd_spec ht h
    obtain ⟨v, h3, h4⟩ := opd_spec ht h2
    obtain ⟨r, S', ts', h5, h6, h7⟩ := appOp_spec hs h4
    exact ⟨r, S', ts', by simp only [evK, h1, h3, h5], h6, h7⟩
  case mkf k fs cs =>
    obtain ⟨us, h1, h2⟩ := evsR_spec ht h
    obtain ⟨vs, h3, h4⟩ := evsR_spec ht h2
    exact ⟨_, S, ts, by simp only [evK, h1, h3], hs, h4⟩
  case conv k x =>
    obtain ⟨v, h1, h2⟩ := opd_spec ht h
    obtain ⟨k', n, rfl, h3⟩ := intR_spec h2
    rw [wrapR_eq] at h3
    exact ⟨_, S, ts, by simp only [evK, h1], hs, h3⟩
  case call => cases h
  case ex x => exact opX_spec ht hs h

/-! Calls. -/
def CallOk (P : Program) (call : CallT) : Prop := ∀ (k : Nat) (args : List V) (ts : TS) (S : St) (c : V → TS → Bool), ts.Abs S → call k args ts c = true →
  ∃ r S' ts', Spec P k args S (fun v U => v = r ∧ U = S') ∧ Kept S S' ∧ ts'.Abs S' ∧ c r ts' = true

noncomputable def callR (call : CallT) (f : Opd) (args : List Opd) (tr : TE) (ts : TS) (c : V → TS → Bool) : Bool :=
  opd f tr fun fv => match fv with
    | .fn (.func k) fs cs => evsR args tr fun vs => call k (appR (appR fs vs) cs) ts c
    | _ => false

/-- An operation, a call or not. -/
noncomputable def opR (call : CallT) (k : K) : TE → TS → (V → TS → Bool) → Bool :=
  match k with
  | .call f args => callR call f args
  | k => opK k

theorem callR_spec {P : Program} {call : CallT} (ok : CallOk P call) {f : Opd} {args : List Opd} {tr : TE} {e : Env} {ts : TS} {S : St} {c : V → TS → Bool} (ht : tr.sub e) (hs : ts.Abs S) (h : callR call f args tr ts c = true) :
    ∃ k fs cs vs, f.ev e = some (.fn (.func k) fs cs) ∧ evs e args = some vs ∧ ∃ r S' ts', Spec P k (fs ++ vs ++ cs) S (fun v U => v = r ∧ U = S') ∧ Kept S S' ∧ ts'.Abs S' ∧ c r ts' = true := by
  unfold callR at h
  obtain ⟨fv, h1, h2⟩ := opd_spec ht h
  split at h2 <;> try cases h2
  obtain ⟨vs, h3, h4⟩ := evsR_spec ht h2
  rw [appR_eq, appR_eq] at h4
  exact ⟨_, _, _, vs, h1, h3, ok _ _ _ _ _ hs h4⟩

noncomputable def wantR (g : Option (Nat × Bool)) (tr : TE) (no yes : Bool) : Bool :=
  Option.rec yes (fun p => optR (Tx.get (path p.1) tr) fun v => match v with
    | .bool b => iteR (iteR b p.2 (notR p.2)) yes no
    | .tup vs => iteR (isNilR vs) no false
    | _ => false) g
theorem wantR_spec {g : Option (Nat × Bool)} {tr : TE} {e : Env} {no yes : Bool} (ht : tr.sub e) (h : wantR g tr no yes = true) : (wantedV e g = some true ∧ yes = true) ∨ (wantedV e g = some false ∧ no = true) := by
  cases g with
  | none => exact .inl ⟨rfl, h⟩
  | some p =>
    obtain ⟨t, want⟩ := p
    obtain ⟨v, h1, h2⟩ := optR_spec (show (optR (Tx.get (path t) tr) fun v => match v with
      | .bool b => iteR (iteR b want (notR want)) yes no
      | .tup vs => iteR (isNilR vs) no false
      | _ => false) = true from h)
    have hg := ht t v h1
    split at h2
    · rename_i b
      simp only [wantedV, hg]
      cases b <;> cases want <;> first | exact .inl ⟨rfl, h2⟩ | exact .inr ⟨rfl, h2⟩
    · rename_i vs
      obtain ⟨h3, h4⟩ := guard_spec (show iteR (isNilR vs) no false = true from h2)
      rw [isNilR_eq, List.isEmpty_iff] at h3
      subst h3
      exact .inr ⟨by simp only [wantedV, hg], h4⟩
    · cases h2

noncomputable def fO (call : CallT) (os : List O') : TE → TS → (TE → TS → Bool) → Bool := List.rec (motive := fun _ => TE → TS → (TE → TS → Bool) → Bool) (fun tr ts k => k tr ts)
  (fun o _ ih tr ts k => wantR o.g tr (ih (TE.put tr o.dst (.tup [])) ts k) (opR call o.k tr ts fun v ts' => ih (TE.put tr o.dst v) ts' k)) os

theorem fO_spec {P : Program} {call : CallT} (ok : CallOk P call) : ∀ {os : List O'} {tr : TE} {e : Env} {ts : TS} {S : St} {k : TE → TS → Bool}, tr.sub e → ts.Abs S → fO call os tr ts k = true →
    ∃ tr' ts' S' e', (Kept S S' ∧ ts'.Abs S') ∧ tr'.sub e' ∧ k tr' ts' = true ∧ ∀ Q : Env → St → Prop, Q e' S' → wops P os Q e S
  | [], tr, e, ts, S, k, ht, hs, h => ⟨tr, ts, S, e, ⟨Kept.refl _, hs⟩, ht, h, fun Q hQ => hQ⟩
  | o :: os, tr, e, ts, S, k, ht, hs, h => by
    rcases wantR_spec ht (show wantR o.g tr (fO call os (TE.put tr o.dst (.tup [])) ts k) (opR call o.k tr ts fun v ts' => fO call os (TE.put tr o.dst v) ts' k) = true from h) with ⟨hw, h1⟩ | ⟨hw, h1⟩
    · by_cases hc : ∃ f args, o.k = .call f args
      · obtain ⟨f, args, hk⟩ := hc
        rw [hk] at h1
        obtain ⟨kf, fs, cs, vs, g1, g2, r, S1, ts1, g3, g6, g4, g5⟩ := callR_spec ok ht hs (show callR call f args tr ts _ = true from h1)
        obtain ⟨tr', ts', S', e', k1, k4, k2, k3⟩ := fO_spec ok (TE.sub_put ht o.dst r) g4 g5
        refine ⟨tr', ts', S', e', ⟨g6.trans k1.1, k1.2⟩, k4, k2, fun Q hQ => ?_⟩
        simp only [wops, hw, hk, g1, g2]
        exact ⟨_, g3, fun r' U hr => by obtain ⟨rfl, rfl⟩ := hr; exact k3 Q hQ⟩
      · have h2 : opK o.k tr ts (fun v ts' => fO call os (TE.put tr o.dst v) ts' k) = true := by
          revert h1 hc
          generalize o.k = kk
          intro h1 hc
          cases kk <;> first | exact h1 | exact absurd ⟨_, _, rfl⟩ hc
        obtain ⟨r, S1, ts1, g1, g2, g3⟩ := opK_spec ht hs h2
        obtain ⟨tr', ts', S', e', k1, k4, k2, k3⟩ := fO_spec ok (TE.sub_put ht o.dst r) g2 g3
        refine ⟨tr', ts', S', e', ⟨(evK_kept g1).trans k1.1, k1.2⟩, k4, k2, fun Q hQ => ?_⟩
        simp only [wops, hw]
        revert g1 hc
        generalize o.k = kk
        intro hc g1
        cases kk <;> first
          | (exfalso; exact hc ⟨_, _, rfl⟩)
          | (simp only [g1]; exact k3 Q hQ)
    · obtain ⟨tr', ts', S', e', k1, k4, k2, k3⟩ := fO_spec ok (TE.sub_put ht o.dst (.tup [])) hs h1
      exact ⟨tr', ts', S', e', k1, k4, k2, fun Q hQ => by simp only [wops, hw]; exact k3 Q hQ⟩

/-! Regions with an open order. -/
noncomputable def rdR (base : Nat) (tr : TE) (d : D) (T : TS) : Bool :=
  match d.slot with
  | some s => match d.o.k with
    | .new z => T.get (base + s) fun o => match o with
      | .arr [y] sz 1 => andR (V.same y z) (andR (Nat.beq sz (sizeR z)) (andR (Nat.ble 1 (sizeR z)) (flatsR z.cells)))
      | _ => false
    | _ => false
  | none => iteR d.o.k.writes false (opK d.o.k tr T fun v _ => Option.rec true (fun t => optR (Tx.get (path t) tr) fun u => V.same u v) d.o.dst)

theorem rdR_spec {base : Nat} {tr : TE} {ef : Env} {d : D} {T : TS} {U : St} (ht : tr.sub ef) (hs : T.Abs U) (h : rdR base tr d T = true) : match d.slot with
    | some s => match d.o.k with
      | .new z => U[base + s]? = some (.arr [z] z.size 1) ∧ 0 < z.size ∧ (z.cells.all V.flat) = true
      | _ => False
    | none => ∃ v, evK ef U d.o.k = some (v, U) ∧ ∀ t, d.o.dst = some t → ef.get t = some v := by
  unfold rdR at h
  split at h
  · rename_i s hsl
    split at h <;> try cases h
    rename_i z hz
    obtain ⟨o, h1, h2⟩ := TS.get_spec hs h
    split at h2 <;> try cases h2
    have h1 := sk_arr h1
    obtain ⟨q1, h3⟩ := andR_spec h2
    obtain ⟨q2, h4⟩ := andR_spec h3
    obtain ⟨q3, q4⟩ := andR_spec h4
    rw [sizeR_eq] at q2 q3
    rw [flatsR_eq] at q4
    rw [same_spec _ _ q1, beq_spec q2] at h1
    exact ⟨h1, ble_spec q3, q4⟩
  · rename_i hsl
    rw [iteR_eq] at h
    split at h
    · cases h
    rename_i hw
    simp only [Bool.not_eq_true] at hw
    obtain ⟨r, S', ts', g1, g2, g3⟩ := opK_spec ht hs h
    have := evK_same hw g1
    subst this
    refine ⟨r, g1, fun t hd => ?_⟩
    rw [hd] at g3
    obtain ⟨u, k1, k2⟩ := optR_spec (show (optR (Tx.get (path t) tr) fun u => V.same u r) = true from g3)
    rw [ht t u k1, same_spec _ _ k2]

noncomputable def rdsR (base : Nat) (tr : TE) (H : List TS) (ds : List D) : Bool := List.rec true (fun d _ ih => iteR (andR d.chk (notR d.w)) (andR (wantR d.o.g tr true (allR (rdR base tr d) (takeR (dropR H d.lo) (Nat.sub (Nat.succ d.hi) d.lo)))) ih) ih) ds

inductive HAbs : List TS → List St → Prop
  | nil : HAbs [] []
  | cons {T : TS} {U : St} {Ts : List TS} {Us : List St} (h : T.Abs U) (t : HAbs Ts Us) : HAbs (T :: Ts) (U :: Us)
theorem HAbs.app {Ts : List TS} {Us : List St} {T : TS} {U : St} (h : HAbs Ts Us) (g : T.Abs U) : HAbs (Ts ++ [T]) (Us ++ [U]) := by
  induction h with
  | nil => exact .cons g .nil
  | cons h _ ih => exact .cons h ih
theorem HAbs.drop {Ts : List TS} {Us : List St} (h : HAbs Ts Us) : ∀ n, HAbs (Ts.drop n) (Us.drop n) := by
  induction h with
  | nil => intro n; simp; exact .nil
  | cons h t ih => intro n; cases n with
    | zero => exact .cons h t
    | succ n => simpa using ih n
theorem HAbs.take {Ts : List TS} {Us : List St} (h : HAbs Ts Us) : ∀ n, HAbs (Ts.take n) (Us.take n) := by
  induction h with
  | nil => intro n; simp; exact .nil
  | cons h t ih => intro n; cases n with
    | zero => exact .nil
    | succ n => simpa using .cons h (ih n)

theorem rdR_all {base : Nat} {tr : TE} {ef : Env} {d : D} (ht : tr.sub ef) {Ts : List TS} {Us : List St} (h : HAbs Ts Us) : Ts.all (rdR base tr d) = true → dchkQ base ef d Us := by
  induction h with
  | nil => intro _; trivial
  | cons h t ih =>
    intro ha
    rw [List.all_cons, Bool.and_eq_true] at ha
    exact ⟨rdR_spec ht h ha.1, ih ha.2⟩

theorem rdsR_spec {base : Nat} {tr : TE} {ef : Env} (ht : tr.sub ef) {Ts : List TS} {Us : List St} (hh : HAbs Ts Us) : ∀ {ds : List D}, rdsR base tr Ts ds = true → dchkL base ef Us ds
  | [], _ => trivial
  | d :: ds, h => by
    have h0 : iteR (andR d.chk (notR d.w)) (andR (wantR d.o.g tr true (allR (rdR base tr d) (takeR (dropR Ts d.lo) (Nat.sub (Nat.succ d.hi) d.lo)))) (rdsR base tr Ts ds)) (rdsR base tr Ts ds) = true := h
    rw [iteR_eq, andR_eq, notR_eq] at h0
    unfold dchkL
    split at h0
    · rename_i hc
      obtain ⟨h1, h2⟩ := andR_spec h0
      refine ⟨?_, rdsR_spec ht hh h2⟩
      rw [if_pos hc]
      rcases wantR_spec ht h1 with ⟨hw, h3⟩ | ⟨hw, _⟩
      · rw [hw]
        rw [allR_eq, takeR_eq, dropR_eq] at h3
        exact rdR_all ht ((hh.drop _).take _) h3
      · rw [hw]; trivial
    · rename_i hc
      exact ⟨by rw [if_neg hc]; trivial, rdsR_spec ht hh h0⟩

noncomputable def lastR (H : List TS) (d : TS → Bool) : Bool := List.rec (motive := fun _ => (Bool → Bool)) (fun b => b) (fun t _ ih _ => ih (d t)) H false
theorem lastR_go (d : TS → Bool) : ∀ (H : List TS) (b : Bool), (List.rec (motive := fun _ => (Bool → Bool)) (fun b => b) (fun t _ ih _ => ih (d t)) H b : Bool) = match H.getLast? with | some t => d t | none => b
  | [], b => rfl
  | [t], b => rfl
  | t :: u :: H, b => by
    show (List.rec (motive := fun _ => (Bool → Bool)) (fun b => b) (fun t _ ih _ => ih (d t)) (u :: H) (d t) : Bool) = _
    rw [lastR_go d (u :: H), List.getLast?_cons_cons]
theorem HAbs.last {Ts : List TS} {Us : List St} (h : HAbs Ts Us) : ∀ {t : TS}, Ts.getLast? = some t → ∃ U, Us.getLast? = some U ∧ t.Abs U := by
  induction h with
  | nil => intro t ht; cases ht
  | cons h t ih =>
    rename_i T U Ts Us
    intro t' ht
    cases t with
    | nil => simp at ht; subst ht; exact ⟨U, rfl, h⟩
    | cons h' t'' =>
      rw [List.getLast?_cons_cons] at ht
      obtain ⟨W, g1, g2⟩ := ih ht
      exact ⟨W, by rw [List.getLast?_cons_cons]; exact g1, g2⟩

noncomputable def fD (call : CallT) (base : Nat) (all : List D) (ds : List D) : TE → TS → List TS → (TE → TS → Bool) → Bool := List.rec (motive := fun _ => TE → TS → List TS → (TE → TS → Bool) → Bool)
  (fun tr _ H k => iteR (rdsR base tr H all) (lastR H fun ts => k tr ts) false)
  (fun d _ ih tr ts H k => wantR d.o.g tr (ih (TE.put tr d.o.dst (.tup [])) ts (iteR d.w (appR H [ts]) H) k)
    (Option.rec (opR call d.o.k tr ts fun v ts' => ih (TE.put tr d.o.dst v) ts' (iteR d.w (appR H [ts']) H) k) (fun s => ih (TE.put tr d.o.dst (.ptr (Nat.add base s) 0 0 1)) ts (iteR d.w (appR H [ts]) H) k) d.slot)) ds

theorem HAbs.wapp {Ts : List TS} {Us : List St} {T : TS} {U : St} (h : HAbs Ts Us) (g : T.Abs U) (w : Bool) : HAbs (iteR w (appR Ts [T]) Ts) (if w then Us ++ [U] else Us) := by
  cases w
  · exact h
  · show HAbs (appR Ts [T]) _
    rw [appR_eq]; exact h.app g

theorem fD_spec {P : Program} {call : CallT} (ok : CallOk P call) {base : Nat} {all : List D} : ∀ {ds : List D} {tr : TE} {e : Env} {ts : TS} {S S0 : St} {Ts : List TS} {Us : List St} {k : TE → TS → Bool}, tr.sub e → ts.Abs S → HAbs Ts Us → (Kept S0 S ∧ ∀ U, U ∈ Us → Kept S0 U) → fD call base all ds tr ts Ts k = true →
    ∃ tr' ts' S' e', (Kept S0 S' ∧ ts'.Abs S') ∧ tr'.sub e' ∧ k tr' ts' = true ∧ ∀ Q : Env → St → Prop, Q e' S' → dwp P base ds (dend base all Q) e S Us
  | [], tr, e, ts, S, S0, Ts, Us, k, ht, hs, hh, hK, h => by
    obtain ⟨h1, h2⟩ := guard_spec (show iteR (rdsR base tr Ts all) (lastR Ts fun ts => k tr ts) false = true from h)
    unfold lastR at h2
    rw [lastR_go] at h2
    cases hl : Ts.getLast? with
    | none => rw [hl] at h2; cases h2
    | some t =>
      rw [hl] at h2
      obtain ⟨U, g1, g2⟩ := hh.last hl
      refine ⟨tr, t, U, e, ⟨hK.2 U (List.mem_of_getLast? g1), g2⟩, ht, h2, fun Q hQ => ?_⟩
      simp only [dwp, dend]
      exact ⟨rdsR_spec ht hh h1, by rw [g1]; exact hQ⟩
  | d :: ds, tr, e, ts, S, S0, Ts, Us, k, ht, hs, hh, hK, h => by
    have up : ∀ {S1 : St} (w : Bool), Kept S0 S1 → (Kept S0 S1 ∧ ∀ U, U ∈ (if w then Us ++ [S1] else Us) → Kept S0 U) := fun {S1} w h1 => ⟨h1, fun U hU => by
      cases w
      · exact hK.2 U (by simpa using hU)
      · have hU : U ∈ Us ++ [S1] := by simpa using hU
        rcases List.mem_append.1 hU with hU | hU
        · exact hK.2 U hU
        · rw [List.mem_singleton] at hU; subst hU; exact h1⟩
    rcases wantR_spec ht (show wantR d.o.g tr (fD call base all ds (TE.put tr d.o.dst (.tup [])) ts (iteR d.w (appR Ts [ts]) Ts) k)
      (Option.rec (opR call d.o.k tr ts fun v ts' => fD call base all ds (TE.put tr d.o.dst v) ts' (iteR d.w (appR Ts [ts']) Ts) k) (fun s => fD call base all ds (TE.put tr d.o.dst (.ptr (Nat.add base s) 0 0 1)) ts (iteR d.w (appR Ts [ts]) Ts) k) d.slot) = true from h) with ⟨hw, h1⟩ | ⟨hw, h1⟩
    · cases hsl : d.slot with
      | some s =>
        rw [hsl] at h1
        obtain ⟨tr', ts', S', e', k1, k4, k2, k3⟩ := fD_spec ok (TE.sub_put ht d.o.dst (.ptr (base + s) 0 0 1)) hs (hh.wapp hs d.w) (up d.w hK.1) (show fD call base all ds (TE.put tr d.o.dst (.ptr (base + s) 0 0 1)) ts (iteR d.w (appR Ts [ts]) Ts) k = true from h1)
        exact ⟨tr', ts', S', e', k1, k4, k2, fun Q hQ => by simp only [dwp, hw, hsl]; exact k3 Q hQ⟩
      | none =>
        rw [hsl] at h1
        have h1 : opR call d.o.k tr ts (fun v ts' => fD call base all ds (TE.put tr d.o.dst v) ts' (iteR d.w (appR Ts [ts']) Ts) k) = true := h1
        by_cases hc : ∃ f args, d.o.k = .call f args
        · obtain ⟨f, args, hk⟩ := hc
          rw [hk] at h1
          obtain ⟨kf, fs, cs, vs, g1, g2, r, S1, ts1, g3, g6, g4, g5⟩ := callR_spec ok ht hs (show callR call f args tr ts _ = true from h1)
          obtain ⟨tr', ts', S', e', k1, k4, k2, k3⟩ := fD_spec ok (TE.sub_put ht d.o.dst r) g4 (hh.wapp g4 d.w) (up d.w (hK.1.trans g6)) g5
          refine ⟨tr', ts', S', e', k1, k4, k2, fun Q hQ => ?_⟩
          simp only [dwp, hw, hsl, hk, g1, g2]
          exact ⟨r, S1, g3, k3 Q hQ⟩
        · have h2 : opK d.o.k tr ts (fun v ts' => fD call base all ds (TE.put tr d.o.dst v) ts' (iteR d.w (appR Ts [ts']) Ts) k) = true := by
            revert h1 hc
            generalize d.o.k = kk
            intro h1 hc
            cases kk <;> first | exact h1 | exact absurd ⟨_, _, rfl⟩ hc
          obtain ⟨r, S1, ts1, g1, g2, g3⟩ := opK_spec ht hs h2
          obtain ⟨tr', ts', S', e', k1, k4, k2, k3⟩ := fD_spec ok (TE.sub_put ht d.o.dst r) g2 (hh.wapp g2 d.w) (up d.w (hK.1.trans (evK_kept g1))) g3
          refine ⟨tr', ts', S', e', k1, k4, k2, fun Q hQ => ?_⟩
          simp only [dwp, hw, hsl]
          revert g1 hc
          generalize d.o.k = kk
          intro hc g1
          cases kk <;> first
            | (exfalso; exact hc ⟨_, _, rfl⟩)
            | (simp only [g1]; exact k3 Q hQ)
    · obtain ⟨tr', ts', S', e', k1, k4, k2, k3⟩ := fD_spec ok (TE.sub_put ht d.o.dst (.tup [])) hs (hh.wapp hs d.w) (up d.w hK.1) h1
      exact ⟨tr', ts', S', e', k1, k4, k2, fun Q hQ => by simp only [dwp, hw]; exact k3 Q hQ⟩
end Go.Proofs.YtbifpocccfkhhaaGreatDoor
/- Fast runs: what a run says. -/
namespace Go.Proofs.YtbifpocccfkhhaaGreatDoor
open Go

abbrev KC := Exit → TE → TS → Bool
noncomputable def seqK (k : KC) (next : TE → TS → Bool) : KC := fun x tr ts => match x with
  | .normal => next tr ts
  | x => k x tr ts
noncomputable def blockK (id : Nat) (k : KC) : KC := fun x tr ts => match x with
  | .exit i => iteR (Nat.beq i id) (k .normal tr ts) (k (.exit i) tr ts)
  | x => k x tr ts
noncomputable def scopeK (k : KC) : KC := fun x tr ts => match x with
  | .goto _ => false
  | x => k x tr ts
noncomputable def pushR (zs : List V) : TS → (TS → Bool) → Bool := List.rec (motive := fun _ => TS → (TS → Bool) → Bool) (fun ts c => c ts) (fun z _ ih ts c => forceN ts.len fun n => ih (TS.push ⟨n, ts.tr⟩ (.arr [z] (sizeR z) 1)) c) zs
theorem pushR_spec : ∀ {zs : List V} {ts : TS} {S : St} {c : TS → Bool}, ts.Abs S → pushR zs ts c = true → ∃ ts', ts'.Abs (S ++ phs zs) ∧ c ts' = true
  | [], ts, S, c, hs, h => ⟨ts, by simpa [phs] using hs, h⟩
  | z :: zs, ts, S, c, hs, h => by
    have h1 : (forceN ts.len fun n => pushR zs (TS.push ⟨n, ts.tr⟩ (.arr [z] (sizeR z) 1)) c) = true := h
    rw [forceN_eq, sizeR_eq] at h1
    obtain ⟨ts', h2, h3⟩ := pushR_spec (TS.push_abs hs) h1
    exact ⟨ts', by simpa [phs] using h2, h3⟩

noncomputable def loopF (f : TE → TS → KC → Bool) (k : KC) (n : Nat) : TE → TS → Bool := Nat.rec (motive := fun _ => TE → TS → Bool) (fun _ _ => false) (fun _ again tr ts => f tr ts (seqK k again)) n
def loopMax : Nat := 1000000
noncomputable def fC (call : CallT) (c : C') : TE → TS → KC → Bool := C'.rec (motive := fun _ => TE → TS → KC → Bool)
  (fun tr ts k => k .normal tr ts)
  (fun ops tr ts k => fO call ops tr ts fun tr' ts' => k .normal tr' ts')
  (fun ds zs tr ts k => pushR zs ts fun ts1 => fD call ts.len ds ds tr ts1 [ts1] fun tr' ts' => k .normal tr' ts')
  (fun _ _ _ _ _ _ => false)
  (fun _ _ iha ihb tr ts k => iha tr ts (seqK k fun tr' ts' => ihb tr' ts' k))
  (fun c _ _ iha ihb tr ts k => opd c tr fun v => boolR v fun b => iteR b (iha tr ts k) (ihb tr ts k))
  (fun id _ ih tr ts k => ih tr ts (blockK id k))
  (fun _ ih tr ts k => ih tr ts (scopeK k))
  (fun _ ih tr ts k => loopF ih k loopMax tr ts)
  (fun id tr ts k => k (.exit id) tr ts)
  (fun tr ts k => k .ret tr ts)
  (fun _ _ _ => false)
  (fun _ _ _ _ _ _ _ _ _ _ _ _ _ => false) c

def loopW (P : Program) (c : C') (Q : Post) : Nat → Env → St → Prop
  | 0, _, _ => False
  | n + 1, e, S => ∀ R : Env → St → Prop, (∀ e S, loopW P c Q n e S → R e S) → WP P c (pthen R Q) e S
theorem loopW_wp {P : Program} {c : C'} {Q : Post} {n : Nat} {e : Env} {S : St} (h : loopW P c Q n e S) : WP P (.loop c) Q e S := by
  simp only [WP]
  refine ⟨loopW P c Q, n, ⟨e, fun _ _ h => h, h⟩, fun m e S hm => ?_⟩
  cases m with
  | zero => exact hm.elim
  | succ m => exact hm _ fun e' S' hl => ⟨m, Nat.lt_succ_self m, e', fun _ _ h => h, hl⟩

def CSpec (P : Program) (c : C') (tr : TE) (e : Env) (ts : TS) (S : St) (k : KC) : Prop :=
  ∃ x tr' ts' S' e', (Kept S S' ∧ ts'.Abs S') ∧ tr'.sub e' ∧ k x tr' ts' = true ∧ ∀ Q : Post, Q x e' S' → WP P c Q e S

theorem loop_spec {P : Program} {c : C'} {f : TE → TS → KC → Bool} (ih : ∀ {tr : TE} {e : Env} {ts : TS} {S : St} {k : KC}, tr.sub e → ts.Abs S → f tr ts k = true → CSpec P c tr e ts S k) :
    ∀ (n : Nat) {tr : TE} {e : Env} {ts : TS} {S : St} {k : KC}, tr.sub e → ts.Abs S → loopF f k n tr ts = true →
    ∃ x tr' ts' S' e', (Kept S S' ∧ ts'.Abs S') ∧ tr'.sub e' ∧ k x tr' ts' = true ∧ ∀ Q : Post, Q x e' S' → loopW P c Q n e S
  | 0, tr, e, ts, S, k, ht, hs, h => by cases h
  | n + 1, tr, e, ts, S, k, ht, hs, h => by
    obtain ⟨x1, tr1, ts1, S1, e1, a1, a2, a3, a4⟩ := ih ht hs (show f tr ts (seqK k (loopF f k n)) = true from h)
    by_cases hx : x1 = .normal
    · subst hx
      obtain ⟨x, tr', ts', S', e', b1, b2, b3, b4⟩ := loop_spec ih n a2 a1.2 (show loopF f k n tr1 ts1 = true from a3)
      exact ⟨x, tr', ts', S', e', ⟨a1.1.trans b1.1, b1.2⟩, b2, b3, fun Q hQ R hR => a4 _ (hR _ _ (b4 Q hQ))⟩
    · have a5 : k x1 tr1 ts1 = true := by
        cases x1 <;> first | exact absurd rfl hx | exact a3
      refine ⟨x1, tr1, ts1, S1, e1, a1, a2, a5, fun Q hQ R hR => a4 _ ?_⟩
      cases x1 <;> first | exact absurd rfl hx | exact hQ

theorem fC_spec {P : Program} {call : CallT} (ok : CallOk P call) : ∀ {c : C'} {tr : TE} {e : Env} {ts : TS} {S : St} {k : KC}, tr.sub e → ts.Abs S → fC call c tr ts k = true → CSpec P c tr e ts S k := by
  intro c
  induction c with
  | skip => intro tr e ts S k ht hs h; exact ⟨_, tr, ts, S, e, ⟨Kept.refl _, hs⟩, ht, h, fun Q hQ => hQ⟩
  | reg ops =>
    intro tr e ts S k ht hs h
    obtain ⟨tr', ts', S', e', h1, h2, h3, h4⟩ := fO_spec ok ht hs (show fO call ops tr ts (fun tr' ts' => k .normal tr' ts') = true from h)
    exact ⟨_, tr', ts', S', e', h1, h2, h3, fun Q hQ => h4 (Q .normal) hQ⟩
  | draw ds zs =>
    intro tr e ts S k ht hs h
    obtain ⟨ts1, g1, g2⟩ := pushR_spec hs (show (pushR zs ts fun ts1 => fD call ts.len ds ds tr ts1 [ts1] fun tr' ts' => k .normal tr' ts') = true from h)
    obtain ⟨tr', ts', S', e', h1, h2, h3, h4⟩ := fD_spec (S0 := S) ok ht g1 (.cons g1 .nil) ⟨Kept.app _ _, fun U hU => by rw [List.mem_singleton] at hU; subst hU; exact Kept.app _ _⟩ g2
    exact ⟨_, tr', ts', S', e', h1, h2, h3, fun Q hQ => by
      simp only [WP]
      rw [hs.1]
      exact h4 (Q .normal) hQ⟩
  | drawl ds zs o => intro tr e ts S k ht hs h; cases h
  | seq a b iha ihb =>
    intro tr e ts S k ht hs h
    obtain ⟨x1, tr1, ts1, S1, e1, a1, a2, a3, a4⟩ := iha ht hs (show fC call a tr ts (seqK k fun tr' ts' => fC call b tr' ts' k) = true from h)
    by_cases hx : x1 = .normal
    · subst hx
      obtain ⟨x, tr', ts', S', e', b1, b2, b3, b4⟩ := ihb a2 a1.2 (show fC call b tr1 ts1 k = true from a3)
      exact ⟨x, tr', ts', S', e', ⟨a1.1.trans b1.1, b1.2⟩, b2, b3, fun Q hQ => a4 _ (b4 Q hQ)⟩
    · have a5 : k x1 tr1 ts1 = true := by
        cases x1 <;> first | exact absurd rfl hx | exact a3
      refine ⟨x1, tr1, ts1, S1, e1, a1, a2, a5, fun Q hQ => a4 _ ?_⟩
      cases x1 <;> first | exact absurd rfl hx | exact hQ
  | cond c a b iha ihb =>
    intro tr e ts S k ht hs h
    obtain ⟨v, h1, h2⟩ := opd_spec (x := c) (c := fun v => boolR v fun t => iteR t (fC call a tr ts k) (fC call b tr ts k)) ht h
    obtain ⟨t, rfl, h3⟩ := boolR_spec h2
    cases t
    · obtain ⟨x, tr', ts', S', e', b1, b2, b3, b4⟩ := ihb ht hs (show fC call b tr ts k = true from h3)
      exact ⟨x, tr', ts', S', e', b1, b2, b3, fun Q hQ => by simp only [WP, h1]; exact ⟨fun h => (by cases h), fun _ => b4 Q hQ⟩⟩
    · obtain ⟨x, tr', ts', S', e', b1, b2, b3, b4⟩ := iha ht hs (show fC call a tr ts k = true from h3)
      exact ⟨x, tr', ts', S', e', b1, b2, b3, fun Q hQ => by simp only [WP, h1]; exact ⟨fun _ => b4 Q hQ, fun h => (by cases h)⟩⟩
  | block id c ih =>
    intro tr e ts S k ht hs h
    obtain ⟨x1, tr1, ts1, S1, e1, a1, a2, a3, a4⟩ := ih ht hs (show fC call c tr ts (blockK id k) = true from h)
    by_cases hx : ∃ i, x1 = .exit i
    · obtain ⟨i, rfl⟩ := hx
      simp only [blockK, iteR_eq] at a3
      split at a3
      · rename_i hi
        have hi := beq_spec hi
        exact ⟨_, tr1, ts1, S1, e1, a1, a2, a3, fun Q hQ => a4 _ (by simp only [pblock]; rw [if_pos hi]; exact hQ)⟩
      · rename_i hi
        have hi : ¬ i = id := fun hh => hi (beq_iff'.2 hh)
        exact ⟨_, tr1, ts1, S1, e1, a1, a2, a3, fun Q hQ => a4 _ (by simp only [pblock]; rw [if_neg hi]; exact hQ)⟩
    · have a5 : k x1 tr1 ts1 = true := by
        cases x1 <;> first | exact absurd ⟨_, rfl⟩ hx | exact a3
      refine ⟨x1, tr1, ts1, S1, e1, a1, a2, a5, fun Q hQ => a4 _ ?_⟩
      cases x1 <;> first | exact absurd ⟨_, rfl⟩ hx | exact hQ
  | scope c ih =>
    intro tr e ts S k ht hs h
    obtain ⟨x1, tr1, ts1, S1, e1, a1, a2, a3, a4⟩ := ih ht hs (show fC call c tr ts (scopeK k) = true from h)
    cases x1 <;> first
      | (exact (by cases a3))
      | exact ⟨_, tr1, ts1, S1, e1, a1, a2, a3, fun Q hQ => a4 _ hQ⟩
  | loop c ih =>
    intro tr e ts S k ht hs h
    obtain ⟨x, tr', ts', S', e', b1, b2, b3, b4⟩ := loop_spec (f := fC call c) ih loopMax ht hs (show loopF (fC call c) k loopMax tr ts = true from h)
    exact ⟨x, tr', ts', S', e', b1, b2, b3, fun Q hQ => loopW_wp (b4 Q hQ)⟩
  | exit id => intro tr e ts S k ht hs h; exact ⟨_, tr, ts, S, e, ⟨Kept.refl _, hs⟩, ht, h, fun Q hQ => hQ⟩
  | ret => intro tr e ts S k ht hs h; exact ⟨_, tr, ts, S, e, ⟨Kept.refl _, hs⟩, ht, h, fun Q hQ => hQ⟩
  | bad => intro tr e ts S k ht hs h; cases h
  | rf => intro tr e ts S k ht hs h; cases h

/-- The functions, and what is known of some calls that leave the store as it is. -/
structure Tb where
  fn : Nat → Option F'
  pr : Nat → List V → Option V
structure Tb.Ok (P : Program) (T : Tb) : Prop where
  fn : ∀ k f', T.fn k = some f' → ∃ f, P.funcs[k]? = some f ∧ compF P f = some f'
  pr : ∀ k args r, T.pr k args = some r → ∀ S, Spec P k args S (fun v U => v = r ∧ U = S)

noncomputable def argTE (args : List V) : Nat → TE → TE := List.rec (motive := fun _ => Nat → TE → TE) (fun _ t => t) (fun v _ ih k t => ih (Nat.succ k) (Tx.put v (path k) t)) args
theorem argTE_sub : ∀ (args : List V) (k : Nat) (t : TE) (e : Env), t.sub e → (∀ j v, e.get j = some v → j < k) → (argTE args k t).sub (argEnv k args ++ e)
  | [], k, t, e, h, _ => h
  | v :: vs, k, t, e, h, hk => by
    have h1 := argTE_sub vs (k + 1) (Tx.put v (path k) t) ((k, v) :: e) (TE.sub_put h (some k) v) (fun j w hj => by
      simp only [Env.get] at hj
      split at hj
      · omega
      · have := hk j w hj; omega)
    intro j w hj
    have h2 := h1 j w hj
    show Env.get ((k, v) :: (argEnv (k + 1) vs ++ e)) j = some w
    have app : ∀ (a b : Env) (j : Nat), Env.get (a ++ b) j = match Env.get a j with | some x => some x | none => Env.get b j := by
      intro a b j
      induction a with
      | nil => rfl
      | cons p a ih =>
        obtain ⟨q, u⟩ := p
        simp only [List.cons_append, Env.get]
        split
        · rfl
        · exact ih
    simp only [Env.get]
    rw [app] at h2 ⊢
    cases ha : Env.get (argEnv (k + 1) vs) j with
    | some x =>
      rw [ha] at h2
      have := (argEnv_get vs (k + 1) j x ha).1
      rw [if_neg (by omega)]; exact h2
    | none =>
      rw [ha] at h2
      simp only [Env.get] at h2
      exact h2

noncomputable def rvsR (rs : List RV) (tr : TE) (ts : TS) : (List V → Bool) → Bool := List.rec (motive := fun _ => (List V → Bool) → Bool) (fun c => c []) (fun r _ ih c => RV.rec (fun t => optR (Tx.get (path t) tr) fun v => ih fun vs => c (v :: vs)) (fun t k => optR (Tx.get (path t) tr) fun p => ldR p k ts fun v => ih fun vs => c (v :: vs)) r) rs
theorem rvsR_spec {tr : TE} {e : Env} {ts : TS} {S : St} (ht : tr.sub e) (hs : ts.Abs S) : ∀ {rs : List RV} {c : List V → Bool}, rvsR rs tr ts c = true → ∃ vs, rvs e S rs = some vs ∧ c vs = true
  | [], c, h => ⟨[], rfl, h⟩
  | .t t :: rs, c, h => by
    obtain ⟨v, h1, h2⟩ := optR_spec (show (optR (Tx.get (path t) tr) fun v => rvsR rs tr ts fun vs => c (v :: vs)) = true from h)
    obtain ⟨vs, h3, h4⟩ := rvsR_spec ht hs h2
    exact ⟨v :: vs, by simp only [rvs, ht t v h1, h3], h4⟩
  | .cell t k :: rs, c, h => by
    obtain ⟨p, h1, h2⟩ := optR_spec (show (optR (Tx.get (path t) tr) fun p => ldR p k ts fun v => rvsR rs tr ts fun vs => c (v :: vs)) = true from h)
    obtain ⟨v, h3, h4⟩ := ldR_spec hs h2
    obtain ⟨vs, h5, h6⟩ := rvsR_spec ht hs h4
    exact ⟨v :: vs, by simp only [rvs, ht t p h1, h5, h3, Option.map_some], h6⟩

noncomputable def retR (vs : List V) (c : V → Bool) : Bool := List.rec (c (.tup [])) (fun v t _ => iteR (isNilR t) (c v) (c (.tup (v :: t)))) vs
theorem retR_eq (vs : List V) (c : V → Bool) : retR vs c = c (retV vs) := by
  cases vs with
  | nil => rfl
  | cons v t => cases t <;> rfl

noncomputable def endK (rs : List RV) (c : V → TS → Bool) : KC := fun x tr ts => match x with
  | .normal => rvsR rs tr ts fun vs => retR vs fun v => c v ts
  | .ret => rvsR rs tr ts fun vs => retR vs fun v => c v ts
  | _ => false

noncomputable def fF (T : Tb) (n : Nat) : CallT := Nat.rec (motive := fun _ => CallT) (fun _ _ _ _ => false)
  (fun _ ih k args ts c => Option.rec (Option.rec false (fun f => iteR (Nat.ble (lenR args) f.N) (fC ih f.body (argTE args 0 .nil) ts (endK f.rs c)) false) (T.fn k)) (fun r => c r ts) (T.pr k args)) n

theorem fF_ok {P : Program} {T : Tb} (ok : T.Ok P) : ∀ n, CallOk P (fF T n)
  | 0 => fun k args ts S c hs h => by cases h
  | n + 1 => fun k args ts S c hs h => by
    have h0 : (Option.rec (Option.rec false (fun f => iteR (Nat.ble (lenR args) f.N) (fC (fF T n) f.body (argTE args 0 .nil) ts (endK f.rs c)) false) (T.fn k)) (fun r => c r ts) (T.pr k args) : Bool) = true := h
    cases hp : T.pr k args with
    | some r =>
      rw [hp] at h0
      exact ⟨r, S, ts, ok.pr _ _ _ hp S, Kept.refl _, hs, h0⟩
    | none =>
      rw [hp] at h0
      cases hf : T.fn k with
      | none => rw [hf] at h0; cases h0
      | some f =>
        rw [hf] at h0
        obtain ⟨h1, h2⟩ := guard_spec (show iteR (Nat.ble (lenR args) f.N) (fC (fF T n) f.body (argTE args 0 .nil) ts (endK f.rs c)) false = true from h0)
        rw [lenR_eq] at h1
        obtain ⟨fn, g1, g2⟩ := ok.fn _ _ hf
        have hsub : (argTE args 0 .nil).sub (argEnv 0 args) := by
          have := argTE_sub args 0 .nil [] (fun j v hj => by rw [Tx.get_nil] at hj; cases hj) (fun j v hj => by cases hj)
          simpa using this
        obtain ⟨x, tr', ts', S', e', a1, a2, a3, a4⟩ := fC_spec (fF_ok ok n) hsub hs h2
        have fin : (x = .normal ∨ x = .ret) → (rvsR f.rs tr' ts' fun vs => retR vs fun v => c v ts') = true → ∃ r S' ts', Spec P k args S (fun v U => v = r ∧ U = S') ∧ Kept S S' ∧ ts'.Abs S' ∧ c r ts' = true := by
          intro hx hr
          obtain ⟨vs, b1, b2⟩ := rvsR_spec a2 a1.2 hr
          rw [retR_eq] at b2
          refine ⟨retV vs, S', ts', Spec.intro g1 g2 (ble_spec h1) (a4 _ ?_), a1.1, a1.2, b2⟩
          rcases hx with rfl | rfl <;> exact ⟨vs, b1, retV vs, S', Ghost.refl _ _ _, rfl, rfl⟩
        cases x <;> first
          | exact fin (.inl rfl) a3
          | exact fin (.inr rfl) a3
          | (cases a3)
end Go.Proofs.YtbifpocccfkhhaaGreatDoor
/- Runs that leave some things open: every outcome is looked at; ranges over functions. -/
namespace Go.Proofs.YtbifpocccfkhhaaGreatDoor
open Go

theorem wops_mono {P : Program} : ∀ {os : List O'} {Q Q' : Env → St → Prop} {e : Env} {S : St}, (∀ e S, Q e S → Q' e S) → wops P os Q e S → wops P os Q' e S
  | [], _, _, _, _, hq, h => hq _ _ h
  | o :: os, Q, Q', e, S, hq, h => by
    simp only [wops] at h ⊢
    split at h
    · exact h.elim
    · exact wops_mono hq h
    · generalize o.k = k at h ⊢
      cases k
      case call f args =>
        simp only at h ⊢
        split at h
        · obtain ⟨R, h1, h2⟩ := h
          exact ⟨R, h1, fun r S' hr => wops_mono hq (h2 r S' hr)⟩
        · obtain ⟨R, h1, h2⟩ := h
          exact ⟨R, h1, fun r S' hr => wops_mono hq (h2 r S' hr)⟩
        · exact h.elim
      all_goals
        simp only at h ⊢
        split at h
        · exact wops_mono hq h
        · rcases h with ⟨h1, h2⟩ | ⟨h1, h2⟩
          · exact .inl ⟨h1, fun v hv => wops_mono hq (h2 v hv)⟩
          · exact .inr ⟨h1, fun q hv => wops_mono hq (h2 q hv)⟩

theorem dwp_mono {P : Program} {base : Nat} : ∀ {ds : List D} {K K' : Env → List St → Prop} {e : Env} {S : St} {H : List St}, (∀ e H, K e H → K' e H) → dwp P base ds K e S H → dwp P base ds K' e S H
  | [], _, _, _, _, _, hq, h => hq _ _ h
  | d :: ds, K, K', e, S, H, hq, h => by
    simp only [dwp] at h ⊢
    split at h
    · exact h.elim
    · exact dwp_mono hq h
    · split at h
      · exact dwp_mono hq h
      · generalize d.o.k = k at h ⊢
        cases k
        case call f args =>
          simp only at h ⊢
          split at h
          · obtain ⟨v, S', h1, h2⟩ := h
            exact ⟨v, S', h1, dwp_mono hq h2⟩
          · exact h.elim
        all_goals
          simp only at h ⊢
          split at h
          · exact dwp_mono hq h
          · exact h.elim

theorem WP_mono {P : Program} : ∀ {c : C'} {Q Q' : Post} {e : Env} {S : St}, (∀ x e S, Q x e S → Q' x e S) → WP P c Q e S → WP P c Q' e S := by
  intro c
  induction c with
  | skip => intro Q Q' e S hq h; exact hq _ _ _ h
  | reg ops => intro Q Q' e S hq h; exact wops_mono (hq .normal) h
  | draw ds zs =>
    intro Q Q' e S hq h
    refine dwp_mono (fun e H hd => ?_) h
    simp only [dend] at hd ⊢
    refine ⟨hd.1, ?_⟩
    have h2 := hd.2
    split at h2
    · exact hq _ _ _ h2
    · exact h2.elim
  | drawl ds zs o =>
    intro Q Q' e S hq h
    refine dwp_mono (fun e H hd => ?_) h
    simp only [dend] at hd ⊢
    refine ⟨hd.1, ?_⟩
    have h2 := hd.2
    split at h2
    · exact wops_mono (hq .normal) h2
    · exact h2.elim
  | seq a b iha ihb =>
    intro Q Q' e S hq h
    refine iha (fun x e S hx => ?_) h
    cases x <;> first | exact hq _ _ _ hx | exact ihb hq hx
  | cond c a b iha ihb =>
    intro Q Q' e S hq h
    simp only [WP] at h ⊢
    split at h
    · exact ⟨fun ht => iha hq (h.1 ht), fun ht => ihb hq (h.2 ht)⟩
    · exact h.elim
  | block id c ih =>
    intro Q Q' e S hq h
    refine ih (fun x e S hx => ?_) h
    cases x <;> simp only [pblock] at hx ⊢ <;> try exact hq _ _ _ hx
    split at hx
    · rename_i hi; rw [if_pos hi]; exact hq _ _ _ hx
    · rename_i hi; rw [if_neg hi]; exact hq _ _ _ hx
  | scope c ih =>
    intro Q Q' e S hq h
    refine ih (fun x e S hx => ?_) h
    cases x <;> simp only [pscope] at hx ⊢ <;> exact hq _ _ _ hx
  | loop c ih =>
    intro Q Q' e S hq h
    obtain ⟨I, n, h0, h1⟩ := h
    refine ⟨I, n, h0, fun n e S hi => ih (fun x e S hx => ?_) (h1 n e S hi)⟩
    cases x <;> first | exact hq _ _ _ hx | exact hx
  | exit id => intro Q Q' e S hq h; exact hq _ _ _ h
  | ret => intro Q Q' e S hq h; exact hq _ _ _ h
  | bad => intro Q Q' e S hq h; exact h
  | rf g ps asg body ca cb N ts iha ihb =>
    intro Q Q' e S hq h
    simp only [WP] at h ⊢
    intro h1 h2
    have h := h h1 h2
    split at h
    · obtain ⟨R, g1, g2⟩ := h
      refine ⟨R, g1, fun r S' hr => ?_⟩
      obtain ⟨i, k1, k2, k3⟩ := g2 r S' hr
      refine ⟨i, k1, k2, ?_⟩
      split at k3 <;> first | exact hq _ _ _ k3 | exact k3.elim
    · exact h.elim

abbrev RoundT := List V → TS → (V → TS → Bool) → Bool
abbrev Ctx := List (Nat × RoundT)
abbrev GCall := Ctx → Nat → List V → TS → (V → TS → Bool) → Bool

def Out (S : St) (c : V → TS → Bool) (r : V) (S' : St) : Prop := Kept S S' ∧ ∃ ts', ts'.Abs S' ∧ c r ts' = true

def HasL (i0 : LI) (l : Nat) (S : St) : Prop := ∃ st pend, S[l]? = some (Ob.loop { i0 with st := st, pend := pend })
theorem HasL.kept {i0 : LI} {l : Nat} {S S' : St} (h : HasL i0 l S) (g : Kept S S') : HasL i0 l S' := by
  obtain ⟨st, p, h⟩ := h
  obtain ⟨st', p', h'⟩ := g l _ h
  exact ⟨st', p', h'⟩

def CtxOk (P : Program) : Ctx → St → Prop
  | [], _ => True
  | (l, rnd) :: ctx, S => CtxOk P ctx S ∧ ∃ i0 : LI, HasL i0 l S ∧ ∀ (args : List V) (ts : TS) (U : St) (c : V → TS → Bool), CtxOk P ctx U → HasL i0 l U → ts.Abs U → rnd args ts c = true → YSpec P l args U (Out U c)

theorem CtxOk.kept {P : Program} : ∀ {ctx : Ctx} {S S' : St}, CtxOk P ctx S → Kept S S' → CtxOk P ctx S'
  | [], _, _, _, _ => trivial
  | (l, rnd) :: ctx, S, S', ⟨h1, i0, h2, h3⟩, hk => ⟨CtxOk.kept h1 hk, i0, h2.kept hk, h3⟩

noncomputable def ctxR (l : Nat) (ctx : Ctx) : Option RoundT := List.rec none (fun p _ ih => iteR (Nat.beq p.1 l) (some p.2) ih) ctx
theorem ctxR_spec {P : Program} {l : Nat} {rnd : RoundT} {args : List V} {ts : TS} {S : St} {c : V → TS → Bool} : ∀ {ctx : Ctx}, CtxOk P ctx S → ctxR l ctx = some rnd → ts.Abs S → rnd args ts c = true → YSpec P l args S (Out S c)
  | [], _, h, _, _ => by cases h
  | (l', r') :: ctx, ⟨h1, i0, h2, h3⟩, h, hs, hr => by
    have h' : iteR (Nat.beq l' l) (some r') (ctxR l ctx) = some rnd := h
    rw [iteR_eq] at h'
    split at h'
    · rename_i hb
      have := beq_spec hb
      subst this
      cases h'
      exact h3 args ts S c h1 h2 hs hr
    · exact ctxR_spec h1 h' hs hr

def GOk (P : Program) (call : GCall) : Prop := ∀ (ctx : Ctx) (k : Nat) (args : List V) (ts : TS) (S : St) (c : V → TS → Bool), CtxOk P ctx S → ts.Abs S → call ctx k args ts c = true → Spec P k args S (Out S c)

noncomputable def callG (call : GCall) (ctx : Ctx) (f : Opd) (args : List Opd) (tr : TE) (ts : TS) (c : V → TS → Bool) : Bool :=
  opd f tr fun fv => match fv with
    | .fn (.func k) fs cs => evsR args tr fun vs => call ctx k (appR (appR fs vs) cs) ts c
    | .yld l => evsR args tr fun vs => optR (ctxR l ctx) fun rnd => rnd vs ts c
    | _ => false

noncomputable def eqnOp (neg : Bool) (v : V) (ts : TS) (c : V → TS → Bool) : Bool :=
  match v with
  | .sl _ xs => iteR (isNilR xs) (andR (c (.bool true) ts) (c (.bool false) ts)) (c (.bool neg) ts)
  | .arr _ _ _ _ => c (.bool neg) ts
  | _ => false

noncomputable def opGx (x : X) : TE → TS → (V → TS → Bool) → Bool :=
  match x with
  | .nxt x => fun tr ts c => opd x tr fun p => nxtOp p ts c
  | .eqn neg x => fun tr ts c => opd x tr fun v => eqnOp neg v ts c
  | x => opX x

noncomputable def opG (call : GCall) (ctx : Ctx) (k : K) : TE → TS → (V → TS → Bool) → Bool :=
  match k with
  | .call f args => callG call ctx f args
  | .ex x => opGx x
  | k => opK k

/-- What an operation that is no call may do. -/
theorem opG_spec {P : Program} {call : GCall} {ctx : Ctx} {o : O'} {os : List O'} {tr : TE} {e : Env} {ts : TS} {S : St} {c : V → TS → Bool} {Q : Env → St → Prop} (hw : wantedV e o.g = some true) (hc : ∀ f args, o.k ≠ .call f args) (ht : tr.sub e) (hs : ts.Abs S)
    (h : opG call ctx o.k tr ts c = true) (hn : ∀ r S' ts', Kept S S' → ts'.Abs S' → c r ts' = true → wops P os Q (e.put o.dst r) S') : wops P (o :: os) Q e S := by
  have main : ∀ {kk : K}, o.k = kk → Done e S kk c → wops P (o :: os) Q e S := by
    intro kk hk ⟨r, S1, ts1, g1, g2, g3⟩
    have h3 := hn r S1 ts1 (evK_kept g1) g2 g3
    simp only [wops, hw]
    rw [hk] at hc ⊢
    cases kk <;> first
      | (exfalso; exact hc _ _ rfl)
      | (simp only [g1]; exact h3)
  generalize hk : o.k = kk at h
  cases kk <;> try exact main hk (opK_spec ht hs h)
  case call f args => exact absurd hk (hc f args)
  case ex x =>
    cases x <;> try exact main hk (opK_spec (k := .ex _) ht hs h)
    case nxt x =>
      obtain ⟨p, h1, h2⟩ := opd_spec (x := x) (c := fun p => nxtOp p ts c) ht h
      obtain ⟨h3, h4⟩ := nxtOp_spec hs h2
      simp only [wops, hw, hk, evK, evX]
      refine .inr ⟨?_, fun q hq => ?_⟩
      · simp only [ndS, h1]; exact h3
      · simp only [ndS, h1] at hq
        obtain ⟨ts', g1, g2⟩ := h4 q hq
        exact hn q.1 q.2 ts' (nxtS_kept hq) g1 g2
    case eqn neg x =>
      obtain ⟨v, h1, h2⟩ := opd_spec (x := x) (c := fun v => eqnOp neg v ts c) ht h
      unfold eqnOp at h2
      split at h2
      · rename_i b xs
        rw [iteR_eq, isNilR_eq] at h2
        cases xs with
        | nil =>
          obtain ⟨h3, h4⟩ := andR_spec (show andR (c (.bool true) ts) (c (.bool false) ts) = true from h2)
          simp only [wops, hw, hk, evK, evX, h1]
          refine .inl ⟨by simp [ndK, ndX, h1], fun v hv => ?_⟩
          simp only [ndK, ndX, h1, List.mem_cons, List.not_mem_nil, or_false] at hv
          rcases hv with rfl | rfl
          · exact hn _ _ ts (Kept.refl _) hs h3
          · exact hn _ _ ts (Kept.refl _) hs h4
        | cons y ys =>
          simp only [wops, hw, hk, evK, evX, h1]
          exact hn _ _ ts (Kept.refl _) hs (by simpa using h2)
      · simp only [wops, hw, hk, evK, evX, h1]
        exact hn _ _ ts (Kept.refl _) hs h2
      · cases h2

noncomputable def gO (call : GCall) (ctx : Ctx) (os : List O') : TE → TS → (TE → TS → Bool) → Bool := List.rec (motive := fun _ => TE → TS → (TE → TS → Bool) → Bool) (fun tr ts k => k tr ts)
  (fun o _ ih tr ts k => wantR o.g tr (ih (TE.put tr o.dst (.tup [])) ts k) (opG call ctx o.k tr ts fun v ts' => ih (TE.put tr o.dst v) ts' k)) os

theorem gO_spec {P : Program} {call : GCall} (ok : GOk P call) {ctx : Ctx} {S0 : St} (hctx : CtxOk P ctx S0) : ∀ {os : List O'} {tr : TE} {e : Env} {ts : TS} {S : St} {k : TE → TS → Bool}, Kept S0 S → tr.sub e → ts.Abs S → gO call ctx os tr ts k = true →
    wops P os (fun e' S' => Kept S0 S' ∧ ∃ tr' ts', tr'.sub e' ∧ ts'.Abs S' ∧ k tr' ts' = true) e S
  | [], tr, e, ts, S, k, hK, ht, hs, h => ⟨hK, tr, ts, ht, hs, h⟩
  | o :: os, tr, e, ts, S, k, hK, ht, hs, h => by
    rcases wantR_spec ht (show wantR o.g tr (gO call ctx os (TE.put tr o.dst (.tup [])) ts k) (opG call ctx o.k tr ts fun v ts' => gO call ctx os (TE.put tr o.dst v) ts' k) = true from h) with ⟨hw, h1⟩ | ⟨hw, h1⟩
    · by_cases hc : ∃ f args, o.k = .call f args
      · obtain ⟨f, args, hk⟩ := hc
        rw [hk] at h1
        obtain ⟨fv, h2, h3⟩ := opd_spec (x := f) ht (show callG call ctx f args tr ts _ = true from h1)
        simp only [wops, hw, hk, h2]
        split at h3
        · obtain ⟨vs, h4, h5⟩ := evsR_spec ht h3
          rw [appR_eq, appR_eq] at h5
          simp only [h4]
          refine ⟨_, ok ctx _ _ ts S _ (hctx.kept hK) hs h5, fun r S' hr => ?_⟩
          obtain ⟨hk', ts', h6, h7⟩ := hr
          exact gO_spec ok hctx (hK.trans hk') (TE.sub_put ht o.dst r) h6 h7
        · obtain ⟨vs, h4, h5⟩ := evsR_spec ht h3
          obtain ⟨rnd, h6, h7⟩ := optR_spec h5
          simp only [h4]
          refine ⟨_, ctxR_spec (hctx.kept hK) h6 hs h7, fun r S' hr => ?_⟩
          obtain ⟨hk', ts', h8, h9⟩ := hr
          exact gO_spec ok hctx (hK.trans hk') (TE.sub_put ht o.dst r) h8 h9
        · cases h3
      · refine opG_spec hw (fun f args hk => hc ⟨f, args, hk⟩) ht hs h1 fun r S' ts' hk' ha hcc => ?_
        exact gO_spec ok hctx (hK.trans hk') (TE.sub_put ht o.dst r) ha hcc
    · simp only [wops, hw]
      exact gO_spec ok hctx hK (TE.sub_put ht o.dst (.tup [])) hs h1

/-! Rounds. -/
noncomputable def isReady (s : LoopState) : Bool := match s with | .ready => true | _ => false
noncomputable def notBusy (s : LoopState) : Bool := match s with | .busy => false | _ => true
noncomputable def putAllR (ps : List Nat) : List V → TE → TE := List.rec (motive := fun _ => List V → TE → TE) (fun _ t => t) (fun p _ ih vs t => List.rec t (fun v vs _ => ih vs (Tx.put v (path p) t)) vs) ps
theorem putAllR_sub : ∀ (ps : List Nat) (vs : List V) {t : TE} {e : Env}, t.sub e → (putAllR ps vs t).sub (putAll ps vs e)
  | [], vs, t, e, h => by cases vs <;> exact h
  | p :: ps, [], t, e, h => h
  | p :: ps, v :: vs, t, e, h => by
    simp only [putAll]
    exact putAllR_sub ps vs (TE.sub_put h (some p) v)
noncomputable def keepT (ts : List Nat) (tr : TE) : TE := List.rec .nil (fun t _ ih => Option.rec ih (fun v => Tx.put v (path t) ih) (Tx.get (path t) tr)) ts
theorem keepT_sub {tr : TE} {e : Env} (h : tr.sub e) : ∀ (ts : List Nat), (keepT ts tr).sub (e.keep ts) ∧ ∀ k v, Tx.get (path k) (keepT ts tr) = some v → Tx.get (path k) tr = some v
  | [] => ⟨fun k v hk => (by rw [show keepT [] tr = .nil from rfl, Tx.get_nil] at hk; cases hk), fun k v hk => (by rw [show keepT [] tr = .nil from rfl, Tx.get_nil] at hk; cases hk)⟩
  | t :: ts => by
    obtain ⟨ih1, ih2⟩ := keepT_sub h ts
    cases hg : Tx.get (path t) tr with
    | none =>
      have he : keepT (t :: ts) tr = keepT ts tr := by
        show (Option.rec (keepT ts tr) (fun v => Tx.put v (path t) (keepT ts tr)) (Tx.get (path t) tr) : TE) = _
        rw [hg]
      rw [he]
      refine ⟨fun k v hk => ?_, ih2⟩
      have h1 := ih1 k v hk
      simp only [Env.keep]
      split
      · simp only [Env.get]
        split
        · rename_i hkt
          subst hkt
          have := ih2 _ v hk
          rw [hg] at this; cases this
        · exact h1
      · exact h1
    | some w =>
      have he : keepT (t :: ts) tr = Tx.put w (path t) (keepT ts tr) := by
        show (Option.rec (keepT ts tr) (fun v => Tx.put v (path t) (keepT ts tr)) (Tx.get (path t) tr) : TE) = _
        rw [hg]
      rw [he]
      have hew := h t w hg
      refine ⟨fun k v hk => ?_, fun k v hk => ?_⟩
      · simp only [Env.keep, hew, Env.get]
        by_cases hkt : t = k
        · subst hkt
          rw [Tx.get_put_same] at hk; cases hk
          rw [if_pos rfl]
        · rw [Tx.get_put_ne _ _ _ _ (fun hp => hkt (path_inj hp))] at hk
          rw [if_neg hkt]
          exact ih1 k v hk
      · by_cases hkt : t = k
        · subst hkt
          rw [Tx.get_put_same] at hk; cases hk
          exact hg
        · rw [Tx.get_put_ne _ _ _ _ (fun hp => hkt (path_inj hp))] at hk
          exact ih2 k v hk

def skL (st : LoopState) (p : Option Code) : Ob := .loop ⟨st, p, [], .skip, .skip, [], 0⟩
noncomputable def endRK (l : Nat) (c : V → TS → Bool) : KC := fun x _ ts => match x with
  | .normal => ts.get l fun o => match o with
    | .loop _ => c (.bool true) (ts.set l (skL .ready none))
    | _ => false
  | .ret => ts.get l fun o => match o with
    | .loop _ => c (.bool false) (ts.set l (skL .done (some .ret)))
    | _ => false
  | .exit id => ts.get l fun o => match o with
    | .loop _ => c (.bool false) (ts.set l (skL .done (some (.exit id))))
    | _ => false
  | _ => false
noncomputable def beginK (fb : TE → TS → KC → Bool) (l : Nat) (c : V → TS → Bool) : KC := fun x tr ts => match x with
  | .normal => ts.get l fun o => match o with
    | .loop i => iteR (isReady i.st) (fb tr (ts.set l (skL .busy i.pend)) (endRK l c)) false
    | _ => false
  | _ => false
noncomputable def roundR (fa fb : TE → TS → KC → Bool) (ps : List Nat) (trk : TE) (l : Nat) : RoundT := fun args ts c =>
  iteR (Nat.beq (lenR args) (lenR ps)) (ts.get l fun o => match o with
    | .loop i => iteR (isReady i.st) (fa (putAllR ps args trk) ts (beginK fb l c)) false
    | _ => false) false

def GPost (S0 : St) (k : KC) : Post := fun x e' S' => Kept S0 S' ∧ ∃ tr' ts', tr'.sub e' ∧ ts'.Abs S' ∧ k x tr' ts' = true
def GSpec (P : Program) (ctx : Ctx) (c : C') (f : TE → TS → KC → Bool) : Prop := ∀ {S0 : St} {tr : TE} {e : Env} {ts : TS} {S : St} {k : KC}, CtxOk P ctx S0 → Kept S0 S → tr.sub e → ts.Abs S → f tr ts k = true → WP P c (GPost S0 k) e S

theorem isReady_spec {s : LoopState} (h : isReady s = true) : s = .ready := by cases s <;> first | rfl | cases h
theorem notBusy_spec {s : LoopState} (h : notBusy s = true) : s ≠ .busy := by cases s <;> first | (cases h; done) | (intro hh; cases hh)
theorem Kept.setLoop {S : St} {l : Nat} {i : LI} (h : S[l]? = some (Ob.loop i)) (st : LoopState) (p : Option Code) : Kept S (S.set l (Ob.loop { i with st := st, pend := p })) := fun j i' hj => by
  by_cases hk : l = j
  · subst hk
    rw [h] at hj; cases hj
    exact ⟨st, p, by rw [List.getElem?_set_self (List.getElem?_eq_some_iff.1 h).1]⟩
  · exact ⟨i'.st, i'.pend, by rw [List.getElem?_set_ne hk]; exact hj⟩

theorem roundR_spec {P : Program} {ctx : Ctx} {ca cb : C'} {fa fb : TE → TS → KC → Bool} (ha : GSpec P ctx ca fa) (hb : GSpec P ctx cb fb) {i0 : LI} {l : Nat} {trk : TE} (htk : trk.sub i0.e) (hca : comp P i0.N i0.asg = some ca) (hcb : comp P i0.N i0.body = some cb)
    (na : ca.noRf = true) (nb : cb.noRf = true) (hps : i0.ps.all (fun p => decide (p < i0.N)) = true) {args : List V} {ts : TS} {U : St} {c : V → TS → Bool} (hctx : CtxOk P ctx U) (hl : HasL i0 l U) (hs : ts.Abs U) (h : roundR fa fb i0.ps trk l args ts c = true) : YSpec P l args U (Out U c) := by
  obtain ⟨h1, h2⟩ := guard_spec (show iteR (Nat.beq (lenR args) (lenR i0.ps)) (ts.get l fun o => match o with
    | .loop i => iteR (isReady i.st) (fa (putAllR i0.ps args trk) ts (beginK fb l c)) false
    | _ => false) false = true from h)
  rw [lenR_eq, lenR_eq] at h1
  have h1 := beq_spec h1
  obtain ⟨st, pd, hl⟩ := hl
  obtain ⟨o, k1, k2⟩ := TS.get_spec hs h2
  split at k2 <;> try cases k2
  obtain ⟨j, j1, j2, j3⟩ := sk_loop k1
  rw [hl] at j1; cases j1
  obtain ⟨k3, k4⟩ := guard_spec k2
  have k3 := isReady_spec k3
  refine YSpec.intro (ca := ca) (cb := cb) hl hca hcb (j2.trans k3) na nb h1 hps ?_
  refine WP_mono (fun x e1 S1 hx => ?_) (ha hctx (Kept.refl U) (putAllR_sub i0.ps args htk) hs k4)
  obtain ⟨hK1, tr1, ts1, m1, m2, m3⟩ := hx
  cases x <;> try (cases m3)
  simp only [beginK] at m3
  obtain ⟨o1, n1, n2⟩ := TS.get_spec m2 m3
  split at n2 <;> try cases n2
  obtain ⟨i1, q1, q2, q3⟩ := sk_loop n1
  obtain ⟨n3, n4⟩ := guard_spec n2
  have n3 := isReady_spec n3
  refine ⟨i1, q1, q2.trans n3, ?_⟩
  have hK2 : Kept S1 (S1.set l (Ob.loop { i1 with st := .busy })) := Kept.setLoop q1 .busy i1.pend
  have hs2 := TS.set_abs' (o := skL .busy _) (o1 := .loop { i1 with st := .busy }) m2 q1 (by rw [show Ob.sk (.loop { i1 with st := .busy }) = skL .busy i1.pend from rfl, q3])
  refine WP_mono (fun x e2 S2 hx => ?_) (hb hctx (hK1.trans hK2) m1 hs2 n4)
  obtain ⟨hK3, tr2, ts2, p1, p2, p3⟩ := hx
  cases x <;> try (cases p3)
  all_goals
    simp only [endRK] at p3
    obtain ⟨o2, r1, r2⟩ := TS.get_spec p2 p3
    split at r2 <;> try cases r2
    obtain ⟨i2, s1, s2, s3⟩ := sk_loop r1
    exact ⟨i2, s1, hK3.trans (Kept.setLoop s1 _ _), _, TS.set_abs' p2 s1 rfl, r2⟩
end Go.Proofs.YtbifpocccfkhhaaGreatDoor
/- Runs with one outcome, with ranges over functions. -/
namespace Go.Proofs.YtbifpocccfkhhaaGreatDoor
open Go

def DCtxOk (P : Program) : Ctx → St → Prop
  | [], _ => True
  | (l, rnd) :: ctx, S => DCtxOk P ctx S ∧ ∃ i0 : LI, HasL i0 l S ∧ ∀ (args : List V) (ts : TS) (U : St) (c : V → TS → Bool), DCtxOk P ctx U → HasL i0 l U → ts.Abs U → rnd args ts c = true →
      ∃ r S' ts', YSpec P l args U (fun v W => v = r ∧ W = S') ∧ Kept U S' ∧ ts'.Abs S' ∧ c r ts' = true

theorem DCtxOk.kept {P : Program} : ∀ {ctx : Ctx} {S S' : St}, DCtxOk P ctx S → Kept S S' → DCtxOk P ctx S'
  | [], _, _, _, _ => trivial
  | (l, rnd) :: ctx, S, S', ⟨h1, i0, h2, h3⟩, hk => ⟨DCtxOk.kept h1 hk, i0, h2.kept hk, h3⟩

theorem dctxR_spec {P : Program} {l : Nat} {rnd : RoundT} {args : List V} {ts : TS} {S : St} {c : V → TS → Bool} : ∀ {ctx : Ctx}, DCtxOk P ctx S → ctxR l ctx = some rnd → ts.Abs S → rnd args ts c = true →
    ∃ r S' ts', YSpec P l args S (fun v W => v = r ∧ W = S') ∧ Kept S S' ∧ ts'.Abs S' ∧ c r ts' = true
  | [], _, h, _, _ => by cases h
  | (l', r') :: ctx, ⟨h1, i0, h2, h3⟩, h, hs, hr => by
    have h' : iteR (Nat.beq l' l) (some r') (ctxR l ctx) = some rnd := h
    rw [iteR_eq] at h'
    split at h'
    · rename_i hb
      have := beq_spec hb
      subst this
      cases h'
      exact h3 args ts S c h1 h2 hs hr
    · exact dctxR_spec h1 h' hs hr

def DOk (P : Program) (call : GCall) : Prop := ∀ (ctx : Ctx) (k : Nat) (args : List V) (ts : TS) (S : St) (c : V → TS → Bool), DCtxOk P ctx S → ts.Abs S → call ctx k args ts c = true →
  ∃ r S' ts', Spec P k args S (fun v U => v = r ∧ U = S') ∧ Kept S S' ∧ ts'.Abs S' ∧ c r ts' = true

noncomputable def noCtx (call : GCall) : CallT := fun k args ts c => call [] k args ts c
theorem noCtx_ok {P : Program} {call : GCall} (ok : DOk P call) : CallOk P (noCtx call) := fun k args ts S c hs h => ok [] k args ts S c trivial hs h

noncomputable def opDk (call : GCall) (ctx : Ctx) (k : K) : TE → TS → (V → TS → Bool) → Bool :=
  match k with
  | .call f args => callG call ctx f args
  | k => opK k

noncomputable def dO (call : GCall) (ctx : Ctx) (os : List O') : TE → TS → (TE → TS → Bool) → Bool := List.rec (motive := fun _ => TE → TS → (TE → TS → Bool) → Bool) (fun tr ts k => k tr ts)
  (fun o _ ih tr ts k => wantR o.g tr (ih (TE.put tr o.dst (.tup [])) ts k) (opDk call ctx o.k tr ts fun v ts' => ih (TE.put tr o.dst v) ts' k)) os

theorem dO_spec {P : Program} {call : GCall} (ok : DOk P call) {ctx : Ctx} : ∀ {os : List O'} {tr : TE} {e : Env} {ts : TS} {S : St} {k : TE → TS → Bool}, DCtxOk P ctx S → tr.sub e → ts.Abs S → dO call ctx os tr ts k = true →
    ∃ tr' ts' S' e', (Kept S S' ∧ ts'.Abs S') ∧ tr'.sub e' ∧ k tr' ts' = true ∧ ∀ Q : Env → St → Prop, Q e' S' → wops P os Q e S
  | [], tr, e, ts, S, k, _, ht, hs, h => ⟨tr, ts, S, e, ⟨Kept.refl _, hs⟩, ht, h, fun Q hQ => hQ⟩
  | o :: os, tr, e, ts, S, k, hctx, ht, hs, h => by
    rcases wantR_spec ht (show wantR o.g tr (dO call ctx os (TE.put tr o.dst (.tup [])) ts k) (opDk call ctx o.k tr ts fun v ts' => dO call ctx os (TE.put tr o.dst v) ts' k) = true from h) with ⟨hw, h1⟩ | ⟨hw, h1⟩
    · by_cases hc : ∃ f args, o.k = .call f args
      · obtain ⟨f, args, hk⟩ := hc
        rw [hk] at h1
        obtain ⟨fv, h2, h3⟩ := opd_spec (x := f) ht (show callG call ctx f args tr ts _ = true from h1)
        split at h3
        · obtain ⟨vs, h4, h5⟩ := evsR_spec ht h3
          rw [appR_eq, appR_eq] at h5
          obtain ⟨r, S1, ts1, g3, g6, g4, g5⟩ := ok ctx _ _ ts S _ hctx hs h5
          obtain ⟨tr', ts', S', e', k1, k4, k2, k3⟩ := dO_spec ok (hctx.kept g6) (TE.sub_put ht o.dst r) g4 g5
          refine ⟨tr', ts', S', e', ⟨g6.trans k1.1, k1.2⟩, k4, k2, fun Q hQ => ?_⟩
          simp only [wops, hw, hk, h2, h4]
          exact ⟨_, g3, fun r' U hr => by obtain ⟨rfl, rfl⟩ := hr; exact k3 Q hQ⟩
        · obtain ⟨vs, h4, h5⟩ := evsR_spec ht h3
          obtain ⟨rnd, h6, h7⟩ := optR_spec h5
          obtain ⟨r, S1, ts1, g3, g6, g4, g5⟩ := dctxR_spec hctx h6 hs h7
          obtain ⟨tr', ts', S', e', k1, k4, k2, k3⟩ := dO_spec ok (hctx.kept g6) (TE.sub_put ht o.dst r) g4 g5
          refine ⟨tr', ts', S', e', ⟨g6.trans k1.1, k1.2⟩, k4, k2, fun Q hQ => ?_⟩
          simp only [wops, hw, hk, h2, h4]
          exact ⟨_, g3, fun r' U hr => by obtain ⟨rfl, rfl⟩ := hr; exact k3 Q hQ⟩
        · cases h3
      · have h2 : opK o.k tr ts (fun v ts' => dO call ctx os (TE.put tr o.dst v) ts' k) = true := by
          revert h1 hc
          generalize o.k = kk
          intro h1 hc
          cases kk <;> first | exact h1 | exact absurd ⟨_, _, rfl⟩ hc
        obtain ⟨r, S1, ts1, g1, g2, g3⟩ := opK_spec ht hs h2
        obtain ⟨tr', ts', S', e', k1, k4, k2, k3⟩ := dO_spec ok (hctx.kept (evK_kept g1)) (TE.sub_put ht o.dst r) g2 g3
        refine ⟨tr', ts', S', e', ⟨(evK_kept g1).trans k1.1, k1.2⟩, k4, k2, fun Q hQ => ?_⟩
        simp only [wops, hw]
        revert g1 hc
        generalize o.k = kk
        intro hc g1
        cases kk <;> first
          | (exfalso; exact hc ⟨_, _, rfl⟩)
          | (simp only [g1]; exact k3 Q hQ)
    · obtain ⟨tr', ts', S', e', k1, k4, k2, k3⟩ := dO_spec ok hctx (TE.sub_put ht o.dst (.tup [])) hs h1
      exact ⟨tr', ts', S', e', k1, k4, k2, fun Q hQ => by simp only [wops, hw]; exact k3 Q hQ⟩

def DSpec (P : Program) (ctx : Ctx) (c : C') (f : TE → TS → KC → Bool) : Prop := ∀ {tr : TE} {e : Env} {ts : TS} {S : St} {k : KC}, DCtxOk P ctx S → tr.sub e → ts.Abs S → f tr ts k = true → CSpec P c tr e ts S k

theorem dround_spec {P : Program} {ctx : Ctx} {ca cb : C'} {fa fb : TE → TS → KC → Bool} (ha : DSpec P ctx ca fa) (hb : DSpec P ctx cb fb) {i0 : LI} {l : Nat} {trk : TE} (htk : trk.sub i0.e) (hca : comp P i0.N i0.asg = some ca) (hcb : comp P i0.N i0.body = some cb)
    (na : ca.noRf = true) (nb : cb.noRf = true) (hps : i0.ps.all (fun p => decide (p < i0.N)) = true) {args : List V} {ts : TS} {U : St} {c : V → TS → Bool} (hctx : DCtxOk P ctx U) (hl : HasL i0 l U) (hs : ts.Abs U) (h : roundR fa fb i0.ps trk l args ts c = true) :
    ∃ r S' ts', YSpec P l args U (fun v W => v = r ∧ W = S') ∧ Kept U S' ∧ ts'.Abs S' ∧ c r ts' = true := by
  obtain ⟨h1, h2⟩ := guard_spec (show iteR (Nat.beq (lenR args) (lenR i0.ps)) (ts.get l fun o => match o with
    | .loop i => iteR (isReady i.st) (fa (putAllR i0.ps args trk) ts (beginK fb l c)) false
    | _ => false) false = true from h)
  rw [lenR_eq, lenR_eq] at h1
  have h1 := beq_spec h1
  obtain ⟨st, pd, hl⟩ := hl
  obtain ⟨o, k1, k2⟩ := TS.get_spec hs h2
  split at k2 <;> try cases k2
  obtain ⟨j, j1, j2, j3⟩ := sk_loop k1
  rw [hl] at j1; cases j1
  obtain ⟨k3, k4⟩ := guard_spec k2
  have k3 := isReady_spec k3
  obtain ⟨x1, tr1, ts1, S1, e1, ⟨hK1, m2⟩, m1, m3, w1⟩ := ha hctx (putAllR_sub i0.ps args htk) hs k4
  cases x1 <;> try (cases m3)
  simp only [beginK] at m3
  obtain ⟨o1, n1, n2⟩ := TS.get_spec m2 m3
  split at n2 <;> try cases n2
  obtain ⟨i1, q1, q2, q3⟩ := sk_loop n1
  obtain ⟨n3, n4⟩ := guard_spec n2
  have n3 := isReady_spec n3
  have hK2 : Kept S1 (S1.set l (Ob.loop { i1 with st := .busy })) := Kept.setLoop q1 .busy i1.pend
  have hs2 := TS.set_abs' (o := skL .busy _) (o1 := .loop { i1 with st := .busy }) m2 q1 (by rw [show Ob.sk (.loop { i1 with st := .busy }) = skL .busy i1.pend from rfl, q3])
  obtain ⟨x2, tr2, ts2, S2, e2, ⟨hK3, p2⟩, p1, p3, w2⟩ := hb (hctx.kept (hK1.trans hK2)) m1 hs2 n4
  have intro : ∀ r S', roundP l (fun v W => v = r ∧ W = S') x2 e2 S2 → YSpec P l args U (fun v W => v = r ∧ W = S') := fun r S' hr =>
    YSpec.intro (ca := ca) (cb := cb) hl hca hcb (j2.trans k3) na nb h1 hps (w1 _ ⟨i1, q1, q2.trans n3, w2 _ hr⟩)
  cases x2 <;> try (cases p3)
  all_goals
    simp only [endRK] at p3
    obtain ⟨o2, r1, r2⟩ := TS.get_spec p2 p3
    split at r2 <;> try cases r2
    obtain ⟨i2, s1, s2, s3⟩ := sk_loop r1
    exact ⟨_, _, _, intro _ _ ⟨i2, s1, rfl, rfl⟩, (hK1.trans hK2).trans (hK3.trans (Kept.setLoop s1 _ _)), TS.set_abs' p2 s1 rfl, r2⟩
end Go.Proofs.YtbifpocccfkhhaaGreatDoor
