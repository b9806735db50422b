/- What a compiled operation yields, the machine's operation yields. -/
import Derived.Test.YtbifpocccfkhhaaGreatDoorLac
import Derived.Deep.LoopGhost
import Derived.OrdersIn
namespace Go.Proofs.YtbifpocccfkhhaaGreatDoor
open Go

def NR (E : En) (nx : Next) (r : V) : Prop := (∃ u, nx = .value u ∧ VR E r u) ∨ (nx = .skip ∧ r = .tup [])

def SimN (P : Program) (E : En) (S : St) (w : World) (s : Sem Next) (r : V) (S' : St) : Prop :=
  ∃ nx E' w', s.run P w = .ok nx w' ∧ NR E' nx r ∧ SR E' S' w' ∧ Ext S.length E S w E' S' w' ∧ S.length ≤ S'.length

theorem Sim.next {P : Program} {E : En} {S S' : St} {w : World} {s : Sem Value} {r : V} (h : Sim P E S w s r S') : SimN P E S w (do Pure.pure (Next.value (← s))) r S' := by
  obtain ⟨d, E', w', h1, h2, h3⟩ := h
  exact ⟨.value d, E', w', by simp [h1, Result.andThen], .inl ⟨d, rfl, h2⟩, h3⟩
theorem SimN.val {P : Program} {E : En} {S : St} {w : World} {u : Value} {r : V} (hs : SR E S w) (h : VR E r u) : SimN P E S w (Pure.pure (Next.value u)) r S :=
  ⟨.value u, E, w, rfl, .inl ⟨u, rfl, h⟩, hs, Ext.refl _ _ _ _, Nat.le_refl _⟩

theorem SimN.cast {P : Program} {E : En} {S S' : St} {w : World} {s s' : Sem Next} {r : V} (h : SimN P E S w s r S') (e : s' = s) : SimN P E S w s' r S' := by rw [e]; exact h

theorem list_opds {E : En} {e : Env} {a : Act} (ht : Tmps E e a.tmps) : ∀ {os : List Operand} {xs : List Opd} {vs : List V}, os.mapM compOpd = some xs → evs e xs = some vs →
    vs.length = os.length ∧ ∀ (i : Nat) (v : V) (o : Operand), vs[i]? = some v → os[i]? = some o → VR E v (a.eval o)
  | [], xs, vs, h1, h2 => by
    simp at h1; subst h1; simp only [evs] at h2; cases h2
    exact ⟨rfl, fun i v o h => by simp at h⟩
  | o :: os, xs, vs, h1, h2 => by
    simp only [List.mapM_cons, Option.bind_eq_bind] at h1
    cases hc : compOpd o with
    | none => rw [hc] at h1; simp at h1
    | some x =>
      rw [hc] at h1
      cases hr : os.mapM compOpd with
      | none => rw [hr] at h1; simp at h1
      | some xs' =>
        rw [hr] at h1
        simp at h1
        subst h1
        simp only [evs] at h2
        split at h2 <;> try cases h2
        rename_i v vs' hv hvs
        obtain ⟨i1, i2⟩ := list_opds ht hr hvs
        refine ⟨by simp [i1], fun i v' o' h h' => ?_⟩
        cases i with
        | zero => simp at h h'; subst h; subst h'; exact opd_sim ht hc hv
        | succ i => exact i2 i v' o' (by simpa using h) (by simpa using h')

theorem parts_sim {E : En} {P : Program} {e : Env} {a : Act} {t : TypeId} {l : List (Nat × Nat)} (ht : Tmps E e a.tmps) (hl : structParts P t = some l) : ∀ {ps : List (Nat × Operand)} {qs : List (Nat × Nat × Nat × Opd)} {vs : List (Nat × Nat × Nat × V)},
    (ps.mapM fun (i, x) => match l[i]?, compOpd x with | some (o, n), some y => some (i, o, n, y) | _, _ => none) = some qs → evParts e qs = some vs →
    vs.length = ps.length ∧ (∀ (j : Nat) (p : Nat × Nat × Nat × V) (u : Nat × Operand), vs[j]? = some p → ps[j]? = some u → p.1 = u.1 ∧ l[p.1]? = some (p.2.1, p.2.2.1) ∧ VR E p.2.2.2 (a.eval u.2)) ∧
    (∀ p, p ∈ vs → ∃ q, q ∈ qs ∧ q.2.1 = p.2.1 ∧ q.2.2.1 = p.2.2.1)
  | [], qs, vs, h1, h2 => by
    simp at h1; subst h1; simp only [evParts] at h2; cases h2
    exact ⟨rfl, fun j p u h => by simp at h, fun p hp => by simp at hp⟩
  | (i, x) :: ps, qs, vs, h1, h2 => by
    simp only [List.mapM_cons, Option.bind_eq_bind] at h1
    cases hi : l[i]? with
    | none => rw [hi] at h1; simp at h1
    | some on =>
      obtain ⟨o, n⟩ := on
      cases hc : compOpd x with
      | none => rw [hi, hc] at h1; simp at h1
      | some y =>
        rw [hi, hc] at h1
        simp only [Option.bind_some] at h1
        cases hr : (ps.mapM fun (i, x) => match l[i]?, compOpd x with | some (o, n), some y => some (i, o, n, y) | _, _ => none) with
        | none => rw [hr] at h1; simp at h1
        | some qs' =>
          rw [hr] at h1
          simp at h1
          subst h1
          simp only [evParts] at h2
          split at h2 <;> try cases h2
          rename_i v vs' hv hvs
          obtain ⟨i1, i2, i3⟩ := parts_sim ht hl hr hvs
          refine ⟨by simp [i1], fun j p u h h' => ?_, fun p hp => ?_⟩
          · cases j with
            | zero => simp at h h'; subst h; subst h'; exact ⟨rfl, hi, opd_sim ht hc hv⟩
            | succ j => exact i2 j p u (by simpa using h) (by simpa using h')
          · rcases List.mem_cons.1 hp with rfl | hp
            · exact ⟨_, List.mem_cons_self, rfl, rfl⟩
            · obtain ⟨q, hq, h⟩ := i3 p hp
              exact ⟨q, List.mem_cons_of_mem _ hq, h⟩

theorem inRow_spec : ∀ {ps : List (Nat × Operand)} {k : Nat}, inRow k ps = true → ∀ (i : Nat) (p : Nat × Operand), ps[i]? = some p → p.1 = k + i
  | [], _, _, i, p, h => by simp at h
  | (j, x) :: ps, k, hr, i, p, h => by
    simp only [inRow, Bool.and_eq_true, beq_iff_eq] at hr
    cases i with
    | zero => simp at h; subst h; exact hr.1
    | succ i => have := inRow_spec hr.2 i p (by simpa using h); omega

theorem mapM_snd {ps : List (Nat × Operand)} : (ps.mapM fun p => compOpd p.2) = (ps.map fun p => p.2).mapM compOpd := by
  induction ps with
  | nil => rfl
  | cons p ps ih => simp [ih]

theorem eqKd_spec {P : Program} {t : TypeId} {kd : EqKd} {x y : V} (h : eqKd P t = some kd) (hk : eqOk kd x y = true) : eqKind P t x y = true := by
  unfold eqKd at h
  split at h <;> cases h <;> rename_i hd
  all_goals (cases x <;> first | (simp [eqOk] at hk; done) | (cases y <;> first | (simp [eqOk] at hk; done) | simp [eqKind, hd]))

theorem evInt_sim {E : En} {e : Env} {a : Act} {o : Option Operand} {x : Option Opd} {r : Option Int} (ht : Tmps E e a.tmps) (hc : (match o with | none => some none | some y => (compOpd y).map some) = some x) (h : evInt e x = some r) :
    ∃ k : IntKind, o.map a.eval = r.map (Value.int k) := by
  cases o with
  | none => simp at hc; subst hc; simp only [evInt, Option.some.injEq] at h; subst h; exact ⟨.i64, rfl⟩
  | some y =>
    simp only at hc
    cases hy : compOpd y with
    | none => rw [hy] at hc; cases hc
    | some z =>
      rw [hy] at hc; cases hc
      simp only [evInt] at h
      split at h <;> cases h
      rename_i k n hz
      have := opd_sim ht hy hz
      cases hu : a.eval y <;> rw [hu] at this <;> cases this
      exact ⟨k, by simp [hu]⟩

theorem evK_sim0 {P : Program} {E : En} {e : Env} {S S' : St} {a : Act} {w : World} {o : Oper} {k : K} {r : V} (hc : compOp0 P o = some k) (he : evK e S k = some (r, S')) (ht : Tmps E e a.tmps) (hs : SR E S w) :
    SimN P E S w (execOp a.eval o) r S' := by
  obtain ⟨dst, op, type, pos, after, guard⟩ := o
  cases op <;> simp only [compOp0] at hc <;> try (cases hc; done)
  case move x =>
    cases hx : compOpd x with
    | none => rw [hx] at hc; cases hc
    | some x' =>
      rw [hx] at hc; cases hc
      simp only [evK] at he
      cases hv : x'.ev e with
      | none => rw [hv] at he; cases he
      | some v => rw [hv] at he; cases he; exact SimN.val hs (opd_sim ht hx hv)
  case assign x =>
    cases hx : compOpd x with
    | none => rw [hx] at hc; cases hc
    | some x' =>
      rw [hx] at hc; cases hc
      simp only [evK] at he
      cases hv : x'.ev e with
      | none => rw [hv] at he; cases he
      | some v => rw [hv] at he; cases he; exact SimN.val hs (opd_sim ht hx hv)
  case pick c x y =>
    split at hc <;> cases hc
    rename_i c' x' y' h1 h2 h3
    simp only [evK] at he
    split at he <;> try cases he
    rename_i t hb
    have hcb := opd_sim ht h1 hb
    cases hu : a.eval c <;> rw [hu] at hcb <;> cases hcb
    cases t with
    | true =>
      simp only [if_true] at he
      cases hv : x'.ev e with
      | none => rw [hv] at he; cases he
      | some v =>
        rw [hv] at he; cases he
        exact ⟨.value (a.eval x), E, w, by simp [execOp, hu, asBool, Result.andThen], .inl ⟨_, rfl, opd_sim ht h2 hv⟩, hs, Ext.refl _ _ _ _, Nat.le_refl _⟩
    | false =>
      simp only [Bool.false_eq_true, if_false] at he
      cases hv : y'.ev e with
      | none => rw [hv] at he; cases he
      | some v =>
        rw [hv] at he; cases he
        exact ⟨.value (a.eval y), E, w, by simp [execOp, hu, asBool, Result.andThen], .inl ⟨_, rfl, opd_sim ht h3 hv⟩, hs, Ext.refl _ _ _ _, Nat.le_refl _⟩
  case alloc t =>
    split at hc <;> try cases hc
    rename_i i hi
    split at hc <;> cases hc
    rename_i z hz
    simp only [evK] at he
    exact (sim_alloc (o := .tuple #[]) hi hz hs (vOf_spec E z) he).next
  case box t x =>
    cases hx : compOpd x with
    | none => rw [hx] at hc; cases hc
    | some x' =>
      rw [hx] at hc; cases hc
      simp only [evK] at he
      cases hv : x'.ev e with
      | none => rw [hv] at he; cases he
      | some v => rw [hv] at he; exact (sim_box (t := t) hs (opd_sim ht hx hv) he).next
  case build t ps =>
    split at hc <;> try cases hc
    rename_i i hi
    split at hc <;> try cases hc
    rename_i z hz
    split at hc <;> try cases hc
    rename_i cs l hcs hl
    split at hc <;> cases hc
    rename_i hall
    unfold compParts at hl
    split at hl <;> try cases hl
    rename_i sp hsp
    simp only [evK] at he
    cases hev : evParts e l with
    | none => rw [hev] at he; cases he
    | some vs =>
      rw [hev] at he
      simp only [Option.bind_some] at he
      cases hb : buildV (.agg cs) (vs.map fun p => p.2) with
      | none => rw [hb] at he; cases he
      | some r' =>
        rw [hb] at he; cases he
        obtain ⟨p1, p2, p3⟩ := parts_sim ht hsp hl hev
        have hvz : VR E (.agg cs) z := by rw [← hcs]; exact vOf_spec E z
        exact (sim_build (us := ps.map fun (i, x) => (i, a.eval x)) hs hi hz hsp hvz rfl (by simp [p1]) (fun j p u hp hu => by
          simp only [Array.getElem?_map, Option.map_eq_some_iff] at hu
          obtain ⟨u', hu', rfl⟩ := hu
          exact p2 j p u' hp (by simpa using hu')) (fun p hp => by
          obtain ⟨q, hq, h1, h2⟩ := p3 p hp
          simp only [List.all_eq_true, Bool.not_eq_true', Bool.and_eq_false_iff, beq_eq_false_iff_ne] at hall
          have := hall q hq
          rintro ⟨h3, h4⟩
          rcases this with h | h
          · exact h (by omega)
          · exact h (by rw [h2, h4]; rfl)) hb).next
  case buildSlice t n ps =>
    split at hc <;> try cases hc
    rename_i sz l hsz hl
    split at hc <;> cases hc
    rename_i hn
    obtain ⟨rfl, hrow⟩ := hn
    simp only [evK] at he
    cases hev : evs e l with
    | none => rw [hev] at he; cases he
    | some vs =>
      rw [hev] at he
      simp only [Option.bind_some] at he
      split at he <;> cases he
      rename_i hf
      rw [mapM_snd] at hl
      obtain ⟨p1, p2⟩ := list_opds ht hl hev
      have hlen : vs.length = ps.size := by rw [p1]; simp
      have := sim_bslice (P := P) (us := ps.map fun (i, x) => (i, a.eval x)) hs (slTy_spec hsz) (xs := vs) (by simp [hlen]) (fun i x u hx hu => by
        simp only [Array.getElem?_map, Option.map_eq_some_iff] at hu
        obtain ⟨u', hu', rfl⟩ := hu
        refine ⟨?_, p2 i x u'.2 hx (by simp; exact ⟨_, by simpa using hu'⟩)⟩
        have := inRow_spec hrow i u' (by simpa using hu'); simpa using this) hf.1 hf.2
      rw [hlen] at this
      exact this.next
  case load t x =>
    split at hc <;> cases hc
    rename_i k x' hk hx
    simp only [evK] at he
    cases hv : x'.ev e with
    | none => rw [hv] at he; cases he
    | some v =>
      rw [hv] at he
      simp only [Option.bind_some] at he
      cases hl : ldS S v k with
      | none => rw [hl] at he; cases he
      | some r' =>
        rw [hl] at he; cases he
        obtain ⟨d, hd, hr⟩ := sim_load (P := P) hs (opd_sim ht hx hv) hk hl
        exact (Sim.pure hs hd hr).next
  case store t x y =>
    split at hc <;> cases hc
    rename_i i x' y' hi hx hy
    simp only [evK] at he
    split at he <;> try cases he
    rename_i p v hp hv
    cases hst : stS S p i.size v with
    | none => rw [hst] at he; cases he
    | some S2 =>
      rw [hst] at he; cases he
      obtain ⟨w', h1, h2, h3, h4⟩ := sim_store (P := P) hs (opd_sim ht hx hp) (opd_sim ht hy hv) hi hst
      exact ⟨.skip, E, w', by simp [execOp, h1, Result.andThen], .inr ⟨rfl, rfl⟩, h2, h3, h4⟩
  case nilCheck x =>
    cases hx : compOpd x with
    | none => rw [hx] at hc; cases hc
    | some x' =>
      rw [hx] at hc; cases hc
      simp only [evK] at he
      cases hv : x'.ev e with
      | none => rw [hv] at he; cases he
      | some v =>
        rw [hv] at he
        simp only [Option.bind_some] at he
        split at he <;> cases he
        rename_i htg
        have hvr := opd_sim ht hx hv
        refine ⟨.value (a.eval x), E, w, ?_, .inl ⟨_, rfl, hvr⟩, hs, Ext.refl _ _ _ _, Nat.le_refl _⟩
        generalize hu : a.eval x = u at hvr
        cases hvr <;> simp [isTgt] at htg <;> simp [execOp, hu]
        rename_i f fs cs us ws h1 h2 g1 g2
        cases f <;> simp [isTgt] at htg ⊢
  case binOp bop t x y yt =>
    split at hc <;> try cases hc
    rename_i x' y' hx hy
    split at hc
    · cases hc
      simp only [evK] at he
      split at he <;> try cases he
      rename_i u v hu hv
      cases hb : binV bop u v with
      | none => rw [hb] at he; cases he
      | some r' =>
        rw [hb] at he; cases he
        exact (sim_bin (t := t) (ox := x) (oy := y) hs (opd_sim ht hx hu) (opd_sim ht hy hv) hb).next
    · split at hc <;> try cases hc
      rename_i kd hkd
      have key : ∀ neg, (bop = if neg = true then BinOp.neq else BinOp.eql) → evK e S (.eq kd neg x' y') = some (r, S') → SimN P E S w (execOp a.eval ⟨dst, .binOp bop t x y yt, type, pos, after, guard⟩) r S' := by
        intro neg hop he
        simp only [evK] at he
        split at he <;> try cases he
        rename_i u v hu hv
        split at he <;> try cases he
        rename_i hok
        cases hb : eqV u v with
        | none => rw [hb] at he; cases he
        | some b =>
          rw [hb] at he; cases he
          have := sim_eq (op := bop) (t := t) (ox := x) (oy := y) hs (opd_sim ht hx hu) (opd_sim ht hy hv) hb (eqKd_spec hkd hok) (by rw [hop]; cases neg <;> simp)
          cases neg
          · subst hop; exact this.next
          · subst hop; exact this.next
      split at hc <;> cases hc
      · exact key false rfl he
      · exact key true rfl he
  case unOp uop t x =>
    cases hx : compOpd x with
    | none => rw [hx] at hc; cases hc
    | some x' =>
      rw [hx] at hc; cases hc
      simp only [evK] at he
      cases hv : x'.ev e with
      | none => rw [hv] at he; cases he
      | some v =>
        rw [hv] at he
        simp only [Option.bind_some] at he
        cases hu : unV uop v with
        | none => rw [hu] at he; cases he
        | some r' => rw [hu] at he; cases he; exact (sim_un hs (opd_sim ht hx hv) hu).next
  case convert st d x =>
    split at hc <;> cases hc
    rename_i k x' ht' hd hx
    simp only [evK] at he
    split at he <;> cases he
    rename_i k' n hv
    have hvr := opd_sim ht hx hv
    generalize hu : a.eval x = u at hvr
    cases hvr
    refine (Sim.pure (s := convert st d (.int k' n)) (d := .int k (k.wrap n)) hs ?_ (.int _ _)).next.cast ?_
    · simp [convert, run_underlying' ht', run_underlying' hd, Result.andThen, Conv.intToInt]
    · simp only [execOp, hu]
  case fieldAddr t x f =>
    split at hc <;> cases hc
    rename_i off x' ho hx
    simp only [evK] at he
    cases hv : x'.ev e with
    | none => rw [hv] at he; cases he
    | some v =>
      rw [hv] at he
      simp only [Option.bind_some] at he
      cases hf : faV v off with
      | none => rw [hf] at he; cases he
      | some r' => rw [hf] at he; cases he; exact (sim_fa hs (opd_sim ht hx hv) ho hf).next
  case field t x f =>
    split at hc <;> cases hc
    rename_i off k x' ho hx
    simp only [evK] at he
    cases hv : x'.ev e with
    | none => rw [hv] at he; cases he
    | some v =>
      rw [hv] at he
      simp only [Option.bind_some] at he
      split at he <;> try cases he
      rename_i hag
      cases hf : v.part off k with
      | none => rw [hf] at he; cases he
      | some r' => rw [hf] at he; cases he; exact (sim_field hs (opd_sim ht hx hv) hag ho hf).next
  case indexAddr t x i =>
    split at hc <;> cases hc
    rename_i sz x' i' hsz hx hi
    simp only [evK] at he
    split at he <;> try cases he
    rename_i p kk ix hp hix
    have hvr := opd_sim ht hi hix
    generalize hu : a.eval i = u at hvr
    cases hvr
    cases hf : iaS S sz p ix with
    | none => rw [hf] at he; cases he
    | some r' =>
      rw [hf] at he; cases he
      have := sim_ia (P := P) (k := kk) hs (opd_sim ht hx hp) hsz hf
      rw [← hu] at this
      exact this.next
  case index t x i =>
    split at hc <;> cases hc
    rename_i x' i' hd hx hi
    simp only [evK] at he
    split at he <;> try cases he
    rename_i s kk ix hp hix
    have h1 := opd_sim ht hi hix
    have h2 := opd_sim ht hx hp
    generalize hu : a.eval i = u at h1
    generalize hv : a.eval x = v at h2
    cases h1; cases h2
    cases hf : idxV s ix with
    | none => rw [hf] at he; cases he
    | some r' =>
      rw [hf] at he; cases he
      have := sim_idx (P := P) (k := kk) hs hd hf
      rw [← hu, ← hv] at this
      exact this.next
  case slice t x lo hi mx =>
    cases mx with
    | some m => cases hc
    | none =>
      simp only at hc
      split at hc <;> try cases hc
      rename_i x' lo' hi' hx hlo hhi
      have key : ∀ (s : Bool) (sz : Nat), (s = true → P.underlying t = some .string) → (s = false → elemSize P t = some sz) → evK e S (.slc s sz x' lo' hi') = some (r, S') → SimN P E S w (execOp a.eval ⟨dst, .slice t x lo hi none, type, pos, after, guard⟩) r S' := by
        intro s sz h1 h2 he
        simp only [evK] at he
        split at he <;> try cases he
        rename_i d l h hd hl hh
        obtain ⟨k1, e1⟩ := evInt_sim ht hlo hl
        obtain ⟨k2, e2⟩ := evInt_sim ht hhi hh
        have hdr := opd_sim ht hx hd
        split at he <;> try cases he
        · rename_i b
          generalize hu : a.eval x = u at hdr
          cases hdr
          cases hf : sliceS S sz (.str b) l h with
          | none => rw [hf] at he; cases he
          | some r' =>
            rw [hf] at he; cases he
            exact (sim_sliceStr (P := P) (k := k1) (k' := k2) hs (h1 rfl) hf).next.cast (by simp [execOp, hu, e1, e2])
        · rename_i xx xs
          cases hf : sliceS S sz (.sl xx xs) l h with
          | none => rw [hf] at he; cases he
          | some r' =>
            rw [hf] at he; cases he
            exact (sim_slice (P := P) (k := k1) (k' := k2) hs (h2 rfl) hdr hf (fun s => by simp)).next.cast (by simp [execOp, e1, e2])
        · rename_i al ao an ast
          cases hf : sliceS S sz (.arr al ao an ast) l h with
          | none => rw [hf] at he; cases he
          | some r' =>
            rw [hf] at he; cases he
            exact (sim_slice (P := P) (k := k1) (k' := k2) hs (h2 rfl) hdr hf (fun s => by simp)).next.cast (by simp [execOp, e1, e2])
      split at hc
      · rename_i hd
        cases hc
        exact key true 0 (fun _ => hd) (fun h => by cases h) he
      · split at hc <;> cases hc
        rename_i sz hsz
        exact key false sz (fun h => by cases h) (fun _ => hsz) he
  case extract x i =>
    cases hx : compOpd x with
    | none => rw [hx] at hc; cases hc
    | some x' =>
      rw [hx] at hc; cases hc
      simp only [evK] at he
      split at he <;> try cases he
      rename_i vs hv
      cases hi : vs[i]? with
      | none => rw [hi] at he; cases he
      | some r' => rw [hi] at he; cases he; exact (sim_extract hs (opd_sim ht hx hv) hi).next
  case makeFunc fn fs cs =>
    cases fn <;> try cases hc
    rename_i kf
    simp only at hc
    split at hc <;> cases hc
    rename_i fs' cs' hfs hcs
    simp only [evK] at he
    split at he <;> cases he
    rename_i us vs hus hvs
    obtain ⟨a1, a2⟩ := list_opds ht hfs hus
    obtain ⟨b1, b2⟩ := list_opds ht hcs hvs
    refine (Sim.pure (d := .func (.func kf) (fs.map a.eval) (cs.map a.eval)) hs (by simp [Instr.makeFunc]) (.fn (by simp [a1]) (by simp [b1]) (fun i v u hv hu => ?_) (fun i v u hv hu => ?_))).next
    · simp only [Array.getElem?_map, Option.map_eq_some_iff] at hu
      obtain ⟨o, ho, rfl⟩ := hu
      exact a2 i v o hv (by simpa using ho)
    · simp only [Array.getElem?_map, Option.map_eq_some_iff] at hu
      obtain ⟨o, ho, rfl⟩ := hu
      exact b2 i v o hv (by simpa using ho)
  case call c =>
    obtain ⟨callee, args, argTypes⟩ := c
    simp only at hc
    split at hc <;> try cases hc
    · rename_i f args' hargs
      cases hf : compOpd f with
      | none => rw [hf] at hc; cases hc
      | some f' => rw [hf] at hc; cases hc; cases he
    · rename_i x' hargs
      split at hc <;> try cases hc
      rename_i t ht0
      have hx : ∃ x, args = #[x] ∧ compOpd x = some x' := by
        have hl : args.toList.mapM compOpd = some [x'] := hargs
        cases hargs' : args.toList with
        | nil => rw [hargs'] at hl; simp at hl
        | cons x xs =>
          rw [hargs'] at hl
          simp only [List.mapM_cons, Option.bind_eq_bind] at hl
          cases hc1 : compOpd x with
          | none => rw [hc1] at hl; simp at hl
          | some y =>
            rw [hc1] at hl
            cases hr : xs.mapM compOpd with
            | none => rw [hr] at hl; simp at hl
            | some ys =>
              rw [hr] at hl
              simp at hl
              obtain ⟨rfl, rfl⟩ := hl
              cases xs with
              | nil => exact ⟨x, by apply Array.toList_inj.1; rw [hargs'], hc1⟩
              | cons z zs =>
                simp only [List.mapM_cons, Option.bind_eq_bind] at hr
                cases h1 : compOpd z with
                | none => rw [h1] at hr; simp at hr
                | some y1 =>
                  rw [h1] at hr
                  cases h2 : zs.mapM compOpd with
                  | none => rw [h2] at hr; simp at hr
                  | some y2 => rw [h2] at hr; simp at hr
      obtain ⟨x, rfl, hx⟩ := hx
      have run : ∀ u : Value, (Builtin.len_ argTypes type #[a.eval x]).run P w = .ok u w → (execOp a.eval ⟨dst, .call ⟨.builtin .len, #[x], argTypes⟩, type, pos, after, guard⟩).run P w = .ok (.value u) w := fun u hu => by
        simp [execOp, resolve, invoke, builtin, hu, Result.andThen]
      split at hc <;> cases hc
      · rename_i hd
        simp only [evK] at he
        cases hv : x'.ev e with
        | none => rw [hv] at he; cases he
        | some v =>
          rw [hv] at he
          simp only [Option.bind_some] at he
          split at he <;> first | contradiction | (cases he; done) | skip
          cases he
          rename_i b hb
          have hvr := opd_sim ht hx hv
          generalize hu : a.eval x = u at hvr
          cases hvr
          exact ⟨.value (.int .i64 b.size), E, w, run _ (by simp [Builtin.len_, ht0, hu, run_underlying' hd, Result.andThen, goInt]), .inl ⟨_, rfl, .int _ _⟩, hs, Ext.refl _ _ _ _, Nat.le_refl _⟩
      · rename_i el hd
        simp only [evK] at he
        cases hv : x'.ev e with
        | none => rw [hv] at he; cases he
        | some v =>
          rw [hv] at he
          simp only [Option.bind_some] at he
          have hvr := opd_sim ht hx hv
          split at he <;> first | contradiction | (cases he; done) | skip
          · cases he
            rename_i b xs hb
            generalize hu : a.eval x = u at hvr
            cases hvr <;> exact ⟨.value (.int .i64 _), E, w, run _ (by simp [Builtin.len_, ht0, hu, run_underlying' hd, Result.andThen, goInt]), .inl ⟨_, rfl, .int _ _⟩, hs, Ext.refl _ _ _ _, Nat.le_refl _⟩
          · cases he
            rename_i l off n st hb
            generalize hu : a.eval x = u at hvr
            cases hvr
            exact ⟨.value (.int .i64 _), E, w, run _ (by simp [Builtin.len_, ht0, hu, run_underlying' hd, Result.andThen, goInt]), .inl ⟨_, rfl, .int _ _⟩, hs, Ext.refl _ _ _ _, Nat.le_refl _⟩
    · rename_i d' x' hargs
      cases hp : appTy P argTypes with
      | none => rw [hp] at hc; cases hc
      | some pr =>
        obtain ⟨sz, bytes⟩ := pr
        rw [hp] at hc; cases hc
        simp only [evK] at he
        split at he <;> try cases he
        rename_i u v hu hv
        have hl : args.toList.mapM compOpd = some [d', x'] := hargs
        have hev : evs e [d', x'] = some [u, v] := by simp [evs, hu, hv]
        obtain ⟨l1, l2⟩ := list_opds ht hl hev
        have hsz : args.size = 2 := by simpa using l1.symm
        obtain ⟨o1, o2, rfl⟩ : ∃ o1 o2, args = #[o1, o2] := by
          obtain ⟨l⟩ := args
          match l, hsz with
          | [o1, o2], _ => exact ⟨o1, o2, rfl⟩
        have r1 := l2 0 u o1 rfl rfl
        have r2 := l2 1 v o2 rfl rfl
        obtain ⟨d, E', w', h1, h2, h3⟩ := sim_append (P := P) (T := type) hs (appTy_spec hp) r1 r2 he
        exact ⟨.value d, E', w', by simp [execOp, resolve, invoke, builtin, h1, Result.andThen], .inl ⟨d, rfl, h2⟩, h3⟩
end Go.Proofs.YtbifpocccfkhhaaGreatDoor
/- Further operations, simulated. -/
namespace Go.Proofs.YtbifpocccfkhhaaGreatDoor
open Go

theorem sim_eqs {E : En} {S : St} {P : Program} {w : World} {op : BinOp} {t : TypeId} {ox oy : Operand} {cs ds : List V} {u v : Value} {b neg : Bool} {fs : Array Field} {i : TypeInfo} {os : List (Nat × CK)} (hs : SR E S w) (hx : VR E (.agg cs) u) (hy : VR E (.agg ds) v)
    (hu : P.underlying t = some (.struct fs)) (hg : P.eqGuardType P.depth t = false) (hc : compEq P 10000 t = some os) (hi : P.info? t = some i) (l1 : cs.length = i.size) (l2 : ds.length = i.size) (h : eqOffs cs ds os = some b) (ho : op = if neg = true then .neq else .eql) :
    Sim P E S w (do eqGuard op t ox oy u v; binOp op t u v) (.bool (if neg then !b else b)) S := by
  have h1 : (Op.equal t u v).run P w = .ok b w := eq_run 10000 t os _ _ u v b hc hx hy (by simp only [EqFit, hu]; exact ⟨rfl, i, hi, l1⟩) (by simp only [EqFit, hu]; exact ⟨rfl, i, hi, l2⟩) h
  cases hx with
  | agg _ _ =>
    rename_i us _ _
    cases hy with
    | agg _ _ =>
      rename_i vs _ _
      have hgd : (eqGuard op t ox oy (.agg us) (.agg vs)).run P w = .ok () w := by
        unfold eqGuard
        subst ho
        cases neg <;> simp [run_program, hg, Result.andThen]
      refine Sim.pure hs (d := .bool (if neg then !b else b)) ?_ (.bool _)
      simp only [Sem.run_bind, hgd, Result.andThen]
      subst ho
      cases neg
      · show (do pure (.bool (← Op.equal t (.agg us) (.agg vs))) : Sem Value).run P w = _
        simp [h1, Result.andThen]
      · show (do pure (.bool (!(← Op.equal t (.agg us) (.agg vs)))) : Sem Value).run P w = _
        simp [h1, Result.andThen]

theorem run_eqnIn {P : Program} {w : World} {t el : TypeId} {a : Option Addr} {l c : Nat} (n : Nat) (hu : P.underlying t = some (.slice el)) : (Op.equalIn (n + 1) t (.slice a l c) (.slice none 0 0)).run P w = .ok a.isNone w := by
  simp only [Op.equalIn, Sem.run_bind, run_underlying' hu, Result.andThen]
  cases a <;> rfl

theorem run_eqn {P : Program} {w : World} {op : BinOp} {t el : TypeId} {ox oy : Operand} {a : Option Addr} {l c : Nat} {neg : Bool} (hu : P.underlying t = some (.slice el)) (ho : op = if neg = true then .neq else .eql) :
    (do eqGuard op t ox oy (.slice a l c) (.slice none 0 0); binOp op t (.slice a l c) (.slice none 0 0) : Sem Value).run P w = .ok (.bool (if neg then !a.isNone else a.isNone)) w := by
  have hgd : (eqGuard op t ox oy (.slice a l c) (.slice none 0 0)).run P w = .ok () w := by
    unfold eqGuard
    subst ho
    cases neg <;> simp
  have h1 : (Op.equal t (.slice a l c) (.slice none 0 0)).run P w = .ok a.isNone w := by
    exact run_eqnIn 9999 hu
  simp only [Sem.run_bind, hgd, Result.andThen]
  subst ho
  cases neg
  · show (do pure (.bool (← Op.equal t (.slice a l c) (.slice none 0 0))) : Sem Value).run P w = _
    simp [h1, Result.andThen]
  · show (do pure (.bool (!(← Op.equal t (.slice a l c) (.slice none 0 0)))) : Sem Value).run P w = _
    simp [h1, Result.andThen]

theorem exec_eqn {P : Program} {w : World} {a : Act} {op : BinOp} {t el yt : TypeId} {x y : Operand} {ad : Option Addr} {l c : Nat} {neg : Bool} {dst : Option Tmp} {type : TypeId} {pos : String} {after : Array Edge} {guard : Option (Nat × Bool)} (hu : P.underlying t = some (.slice el)) (ho : op = if neg = true then .neq else .eql)
    (hx : a.eval x = .slice ad l c) (hy : a.eval y = .slice none 0 0) : (execOp a.eval ⟨dst, .binOp op t x y yt, type, pos, after, guard⟩).run P w = .ok (.value (.bool (if neg then !ad.isNone else ad.isNone))) w := by
  have := run_eqn (P := P) (w := w) (ox := x) (oy := y) (a := ad) (l := l) (c := c) hu ho
  simp only [Sem.run_bind] at this
  simp only [execOp, hx, hy, Sem.run_bind]
  rw [this]
  simp only [Result.andThen, Sem.run_pure]

theorem isNil_eval {a : Act} {y : Operand} (h : isNilSlice y = true) : a.eval y = .slice none 0 0 := by
  unfold isNilSlice at h
  split at h
  · rfl
  · cases h

theorem args2 {args : Array Operand} {x' y' : Opd} (h : args.toList.mapM compOpd = some [x', y']) : ∃ x y, args = #[x, y] ∧ compOpd x = some x' ∧ compOpd y = some y' := by
  cases hl : args.toList with
  | nil => rw [hl] at h; simp at h
  | cons x xs =>
    rw [hl] at h
    simp only [List.mapM_cons, Option.bind_eq_bind] at h
    cases h1 : compOpd x with
    | none => rw [h1] at h; simp at h
    | some x1 =>
      rw [h1] at h
      cases xs with
      | nil => simp at h
      | cons y ys =>
        simp only [List.mapM_cons, Option.bind_eq_bind] at h
        cases h2 : compOpd y with
        | none => rw [h2] at h; simp at h
        | some y1 =>
          rw [h2] at h
          cases ys with
          | nil =>
            simp at h
            obtain ⟨rfl, rfl⟩ := h
            exact ⟨x, y, by apply Array.toList_inj.1; rw [hl], h1, h2⟩
          | cons z zs =>
            simp only [List.mapM_cons, Option.bind_eq_bind] at h
            cases h3 : compOpd z with
            | none => rw [h3] at h; simp at h
            | some z1 =>
              rw [h3] at h
              cases h4 : zs.mapM compOpd with
              | none => rw [h4] at h; simp at h
              | some q => rw [h4] at h; simp at h

theorem evX_sim {P : Program} {E : En} {e : Env} {S S' : St} {a : Act} {w : World} {o : Oper} {k : X} {r : V} (hc : compX P o = some k) (he : evX e S k = some (r, S')) (ht : Tmps E e a.tmps) (hs : SR E S w) :
    SimN P E S w (execOp a.eval o) r S' := by
  obtain ⟨dst, op, type, pos, after, guard⟩ := o
  cases op <;> simp only [compX] at hc <;> try (cases hc; done)
  case binOp bop t x y yt =>
    split at hc
    · cases hc
    rename_i hop
    have hop' : ∀ neg, (bop == BinOp.neq) = neg → bop = if neg = true then .neq else .eql := by
      intro neg hn
      subst hn
      cases bop <;> first | rfl | (simp at hop; done) | (exact absurd hop (by decide))
    split at hc <;> try cases hc
    · rename_i fs hu
      split at hc
      · cases hc
      rename_i hg
      split at hc <;> try cases hc
      rename_i os i x' y' hos hi hx hy
      simp only [evX] at he
      split at he <;> try cases he
      rename_i cs ds hv1 hv2
      split at he <;> try cases he
      rename_i hlen
      cases hb : eqOffs cs ds os with
      | none => rw [hb] at he; cases he
      | some b =>
        rw [hb] at he; cases he
        exact (sim_eqs (ox := x) (oy := y) hs (opd_sim ht hx hv1) (opd_sim ht hy hv2) hu (by simpa using hg) hos hi hlen.1 hlen.2 hb (hop' _ rfl)).next
    · rename_i el hu
      split at hc
      · rename_i hn
        cases hx : compOpd x with
        | none => rw [hx] at hc; cases hc
        | some x' =>
          rw [hx] at hc; cases hc
          have hy0 := isNil_eval (a := a) hn
          simp only [evX] at he
          split at he
          · rename_i hv
            cases he
            have hvr := opd_sim ht hx hv
            generalize hua : a.eval x = u at hvr
            cases hvr with
            | sl hc' hx' hs' hI hv' =>
              refine ⟨.value (.bool (bop == .neq)), E, w, ?_, .inl ⟨_, rfl, .bool _⟩, hs, Ext.refl _ _ _ _, Nat.le_refl _⟩
              rw [exec_eqn hu (hop' _ rfl) hua hy0]
              cases (bop == BinOp.neq) <;> rfl
          · rename_i hv
            cases he
            have hvr := opd_sim ht hx hv
            generalize hua : a.eval x = u at hvr
            cases hvr with
            | arr hr hN hc' =>
              refine ⟨.value (.bool (bop == .neq)), E, w, ?_, .inl ⟨_, rfl, .bool _⟩, hs, Ext.refl _ _ _ _, Nat.le_refl _⟩
              rw [exec_eqn hu (hop' _ rfl) hua hy0]
              cases (bop == BinOp.neq) <;> rfl
          · cases he
      · cases hc
  case lookup t x k ok =>
    split at hc <;> try cases hc
    rename_i kd kt et hm
    split at hc <;> try cases hc
    rename_i i x' k' hi hx hk
    cases hz : i.zero with
    | none => rw [hz] at hc; cases hc
    | some z =>
      rw [hz] at hc; cases hc
      simp only [evX] at he
      split at he <;> try cases he
      rename_i m key hv1 hv2
      cases hl : lkpV S kd (vOf z) ok m key with
      | none => rw [hl] at he; cases he
      | some r' =>
        rw [hl] at he; cases he
        exact (sim_lookup hs hm hi hz (vOf_spec E z) (opd_sim ht hx hv1) (opd_sim ht hk hv2) hl).next
  case mapUpdate t m k x =>
    split at hc <;> try cases hc
    rename_i kd kt et m' k' x' hm h1 h2 h3
    simp only [evX] at he
    split at he <;> try cases he
    rename_i mv kv xv e1 e2 e3
    cases hl : mupS S kd mv kv xv with
    | none => rw [hl] at he; cases he
    | some S2 =>
      rw [hl] at he; cases he
      obtain ⟨E', w', g1, g2, g3, g4⟩ := sim_mapUpdate (P := P) hs hm (opd_sim ht h1 e1) (opd_sim ht h2 e2) (opd_sim ht h3 e3) hl
      exact ⟨.skip, E', w', by simp [execOp, g1, Result.andThen], .inr ⟨rfl, rfl⟩, g2, g3, g4⟩
  case insert t m k x =>
    split at hc <;> try cases hc
    rename_i kd kt et m' k' x' hm h1 h2 h3
    simp only [evX] at he
    split at he <;> try cases he
    rename_i mv kv xv e1 e2 e3
    cases hl : mupS S kd mv kv xv with
    | none => rw [hl] at he; cases he
    | some S2 =>
      rw [hl] at he; cases he
      obtain ⟨E', w', g1, g2, g3, g4⟩ := sim_mapUpdate (P := P) hs hm (opd_sim ht h1 e1) (opd_sim ht h2 e2) (opd_sim ht h3 e3) hl
      exact ⟨.skip, E', w', by simp [execOp, g1, Result.andThen], .inr ⟨rfl, rfl⟩, g2, g3, g4⟩
  case makeMap t rv =>
    cases rv with
    | some h => cases hc
    | none =>
      simp only [Option.some.injEq] at hc
      subst hc
      simp only [evX, Option.some.injEq, Prod.mk.injEq] at he
      obtain ⟨rfl, rfl⟩ := he
      exact (sim_makeMap (t := t) hs).next
  case call c =>
    obtain ⟨callee, args, argTypes⟩ := c
    simp only at hc
    split at hc <;> try cases hc
    · rename_i x' y' hargs
      obtain ⟨x, y, rfl, hx, hy⟩ := args2 hargs
      simp only [evX] at he
      split at he <;> try cases he
      rename_i u v hu hv
      cases hm : mmV true u v with
      | none => rw [hm] at he; cases he
      | some r' =>
        rw [hm] at he; cases he
        have h1 := opd_sim ht hx hu
        have h2 := opd_sim ht hy hv
        generalize hxa : a.eval x = xa at h1
        generalize hya : a.eval y = ya at h2
        cases h1 <;> cases h2 <;> simp only [mmV, reduceCtorEq, Option.some.injEq] at hm
        subst hm
        exact ⟨.value (.int _ _), E, w, by simp [execOp, resolve, invoke, builtin, Builtin.max_, Builtin.max2, hxa, hya, Result.andThen], .inl ⟨_, rfl, .int _ _⟩, hs, Ext.refl _ _ _ _, Nat.le_refl _⟩
    · rename_i x' y' hargs
      obtain ⟨x, y, rfl, hx, hy⟩ := args2 hargs
      simp only [evX] at he
      split at he <;> try cases he
      rename_i u v hu hv
      cases hm : mmV false u v with
      | none => rw [hm] at he; cases he
      | some r' =>
        rw [hm] at he; cases he
        have h1 := opd_sim ht hx hu
        have h2 := opd_sim ht hy hv
        generalize hxa : a.eval x = xa at h1
        generalize hya : a.eval y = ya at h2
        cases h1 <;> cases h2 <;> simp only [mmV, reduceCtorEq, Option.some.injEq] at hm
        subst hm
        exact ⟨.value (.int _ _), E, w, by simp [execOp, resolve, invoke, builtin, Builtin.min_, Builtin.min2, hxa, hya, Result.andThen], .inl ⟨_, rfl, .int _ _⟩, hs, Ext.refl _ _ _ _, Nat.le_refl _⟩
    · rename_i x' y' hargs
      obtain ⟨x, y, rfl, hx, hy⟩ := args2 hargs
      split at hc <;> try cases hc
      rename_i t hts
      cases hm : mapTy P t with
      | none => rw [hm] at hc; cases hc
      | some q =>
        rw [hm] at hc
        simp only [Option.bind_some, Option.some.injEq] at hc
        subst hc
        obtain ⟨kd, kt, et⟩ := q
        simp only [evX] at he
        split at he <;> try cases he
        rename_i m key hv1 hv2
        cases hl : delS S kd m key with
        | none => rw [hl] at he; cases he
        | some S2 =>
          rw [hl] at he; cases he
          obtain ⟨d, E', w', g1, g2, g3⟩ := sim_delete (P := P) (T := type) hs hts hm (opd_sim ht hx hv1) (opd_sim ht hy hv2) hl
          exact ⟨.value d, E', w', by simp [execOp, resolve, invoke, builtin, g1, Result.andThen], .inl ⟨d, rfl, g2⟩, g3⟩
  case range t x =>
    split at hc <;> try cases hc
    rename_i q x' hm hx
    simp only [evX] at he
    cases hv : x'.ev e with
    | none => rw [hv] at he; cases he
    | some v =>
      rw [hv] at he
      exact (sim_range hs hm (opd_sim ht hx hv) he).next
  case next x b =>
    cases b
    · simp only at hc
      cases hx : compOpd x with
      | none => rw [hx] at hc; cases hc
      | some x' => rw [hx] at hc; cases hc; simp only [evX] at he; cases he
    · cases hc
  case entry x =>
    cases hx : compOpd x with
    | none => rw [hx] at hc; cases hc
    | some x' =>
      rw [hx] at hc; cases hc
      simp only [evX] at he
      cases hv : x'.ev e with
      | none => rw [hv] at he; cases he
      | some v =>
        rw [hv] at he
        simp only [Option.bind_some] at he
        cases hr : entS S v with
        | none => rw [hr] at he; cases he
        | some r' =>
          rw [hr] at he; cases he
          exact (sim_entry hs (opd_sim ht hx hv) hr).next
  case build t ps =>
    split at hc <;> try cases hc
    rename_i i l hi hl
    split at hc <;> try cases hc
    rename_i z hz
    split at hc <;> try cases hc
    rename_i j x hps
    split at hc <;> try cases hc
    rename_i n x' hj hx
    split at hc <;> cases hc
    rename_i hzn
    simp only [evX] at he
    cases hv : x'.ev e with
    | none => rw [hv] at he; cases he
    | some v =>
      rw [hv] at he
      simp only [Option.bind_some] at he
      split at he <;> cases he
      rename_i hvn
      have hps' : ps = #[(j, x)] := by apply Array.toList_inj.1; rw [hps]
      subst hps'
      exact (sim_wrap hs hi hz hzn hl hj (opd_sim ht hx hv) hvn.1 hvn.2).next.cast (by simp [execOp])
  case index t x i =>
    split at hc <;> try cases hc
    rename_i n el hu
    split at hc <;> try cases hc
    rename_i ei k x' i' hei hk hx hi
    simp only [evX] at he
    split at he <;> try cases he
    rename_i v kd ix hv1 hv2
    split at he <;> try cases he
    rename_i hcc
    cases hr : v.part (ix.toNat * ei.size) k with
    | none => rw [hr] at he; cases he
    | some r' =>
      rw [hr] at he; cases he
      have h2 := opd_sim ht hi hv2
      generalize hia : a.eval i = ia at h2
      cases h2
      refine (sim_ixa (kd := kd) hs (opd_sim ht hx hv1) hcc.1 hu hei hk hcc.2 hr).next.cast ?_
      simp only [execOp, hia]
  case makeSlice t l c =>
    split at hc <;> try cases hc
    rename_i el hu
    split at hc <;> try cases hc
    rename_i i l' c' hi hl hcc
    cases hz : i.zero with
    | none => rw [hz] at hc; cases hc
    | some z =>
      rw [hz] at hc; cases hc
      simp only [evX] at he
      split at he <;> try cases he
      rename_i kl l0 kc c0 e1 e2
      have h1 := opd_sim ht hl e1
      have h2 := opd_sim ht hcc e2
      refine (sim_makeSlice (kl := kl) (kc := kc) hs hu hi hz (vOf_spec E z) he).next.cast ?_
      generalize hla : a.eval l = la at h1
      generalize hca : a.eval c = ca at h2
      cases h1; cases h2
      simp only [execOp, hla, hca]
  case indexAddr t x i =>
    split at hc <;> try cases hc
    rename_i n sz x' i' hty hx hi
    simp only [evX] at he
    split at he <;> try cases he
    rename_i p k ix e1 e2
    cases hr : iaaV n sz p ix with
    | none => rw [hr] at he; cases he
    | some r' =>
      rw [hr] at he; cases he
      have h2 := opd_sim ht hi e2
      refine (sim_iaa (k := k) hs (opd_sim ht hx e1) hty hr).next.cast ?_
      generalize hia : a.eval i = ia at h2
      cases h2
      simp only [execOp, hia]
  case convert src d x =>
    split at hc <;> try cases hc
    · rename_i el x' h1 h2 hx
      split at hc <;> cases hc
      rename_i hb
      simp only [evX] at he
      cases hv : x'.ev e with
      | none => rw [hv] at he; cases he
      | some p =>
        rw [hv] at he
        simp only [Option.bind_some] at he
        cases hr : ctsV S p with
        | none => rw [hr] at he; cases he
        | some r' =>
          rw [hr] at he; cases he
          exact (sim_cts hs (opd_sim ht hx hv) h1 (isU8_spec hb) h2 hr).next
    · rename_i el x' h1 h2 hx
      split at hc <;> cases hc
      rename_i hb
      simp only [evX] at he
      split at he <;> try cases he
      rename_i s hv
      have hvr := opd_sim ht hx hv
      refine (sim_ctb hs h1 h2 (isU8_spec hb)).next.cast ?_
      generalize hxa : a.eval x = xa at hvr
      cases hvr
      simp only [execOp, hxa]

theorem evK_sim {P : Program} {E : En} {e : Env} {S S' : St} {a : Act} {w : World} {o : Oper} {k : K} {r : V} (hc : compOp P o = some k) (he : evK e S k = some (r, S')) (ht : Tmps E e a.tmps) (hs : SR E S w) :
    SimN P E S w (execOp a.eval o) r S' := by
  unfold compOp at hc
  split at hc
  · rename_i k' hk; cases hc; exact evK_sim0 hk he ht hs
  · cases hx : compX P o with
    | none => rw [hx] at hc; cases hc
    | some x => rw [hx] at hc; cases hc; exact evX_sim hx he ht hs

theorem compOp0_x (P : Program) (o : Oper) (x : X) : compOp0 P o ≠ some (.ex x) := by
  intro h
  obtain ⟨dst, op, type, pos, after, guard⟩ := o
  cases op <;> simp only [compOp0] at h
  all_goals (first | (cases h; done) | (simp at h; done) | (revert h; repeat' split) )
  all_goals (first | contradiction | (intro h; cases h; done) | (intro h; simp at h; done) | skip)

/-- What else an operation may do: one of these. -/
def ndS (e : Env) (S : St) : K → List (V × St)
  | .ex (.nxt x) => match x.ev e with
    | some p => nxtS S p
    | none => []
  | _ => []

theorem ndS_sim {P : Program} {E : En} {e : Env} {S : St} {a : Act} {w : World} {o : Oper} {k : K} (hc : compOp P o = some k) (hn : ndS e S k ≠ []) (ht : Tmps E e a.tmps) (hs : SR E S w) : ∃ q, q ∈ ndS e S k ∧ SimN P E S w (execOp a.eval o) q.1 q.2 := by
  have hk : ∃ x, k = .ex (.nxt x) := by
    cases k <;> try exact absurd rfl hn
    rename_i x
    cases x <;> first | exact ⟨_, rfl⟩ | exact absurd rfl hn
  obtain ⟨x, rfl⟩ := hk
  have hx : compX P o = some (.nxt x) := by
    unfold compOp at hc
    split at hc
    · rename_i k' hk; cases hc; exact absurd hk (compOp0_x P o _)
    · cases hx : compX P o with
      | none => rw [hx] at hc; cases hc
      | some x' => rw [hx] at hc; cases hc; rfl
  obtain ⟨dst, op, type, pos, after, guard⟩ := o
  have hop : ∃ y, op = .next y false ∧ compOpd y = some x := by
    cases op <;> simp only [compX] at hx <;> try (cases hx; done)
    case next y b =>
      cases b
      · simp only at hx
        cases hy : compOpd y with
        | none => rw [hy] at hx; cases hx
        | some y' => rw [hy] at hx; cases hx; exact ⟨y, rfl, hy⟩
      · cases hx
    all_goals (revert hx; repeat' split)
    all_goals first | contradiction | (intro hx; first | (cases hx; done) | (simp only [Option.map_eq_some_iff, Option.bind_eq_some_iff, reduceCtorEq, and_false, exists_false, Option.some.injEq] at hx; done) | (obtain ⟨_, _, hx⟩ := Option.map_eq_some_iff.1 hx; cases hx) | (obtain ⟨_, _, hx⟩ := Option.bind_eq_some_iff.1 hx; cases hx))
  obtain ⟨y, rfl, hy⟩ := hop
  simp only [ndS] at hn ⊢
  split at hn
  · rename_i p hp
    obtain ⟨q, hq, hsim⟩ := sim_next (P := P) (t := type) hs (opd_sim ht hy hp) hn
    exact ⟨q, hq, hsim.next⟩
  · exact absurd rfl hn

/-- One of what may be. -/
theorem ndK_sim {P : Program} {E : En} {e : Env} {S : St} {a : Act} {w : World} {o : Oper} {k : K} (hc : compOp P o = some k) (hn : ndK e k ≠ []) (ht : Tmps E e a.tmps) (hs : SR E S w) :
    ∃ v u, v ∈ ndK e k ∧ (execOp a.eval o).run P w = .ok (.value u) w ∧ VR E v u := by
  have hk : ∃ x, k = .ex x := by cases k <;> first | exact ⟨_, rfl⟩ | exact absurd rfl hn
  obtain ⟨x, rfl⟩ := hk
  have hx : compX P o = some x ∨ compOp0 P o = some (.ex x) := by
    unfold compOp at hc
    split at hc
    · rename_i k' hk; cases hc; exact .inr hk
    · cases hx : compX P o with
      | none => rw [hx] at hc; cases hc
      | some x' => rw [hx] at hc; cases hc; exact .inl rfl
  obtain ⟨dst, op, type, pos, after, guard⟩ := o
  cases x <;> simp only [ndK, ndX] at hn <;> try exact absurd rfl hn
  rename_i neg x'
  rcases hx with hx | hx
  · cases op <;> simp only [compX] at hx <;> try (cases hx; done)
    case binOp bop t x y yt =>
      split at hx
      · cases hx
      rename_i hop
      have hop' : ∀ neg, (bop == BinOp.neq) = neg → bop = if neg = true then .neq else .eql := by
        intro neg hn
        subst hn
        cases bop <;> first | rfl | (simp at hop; done) | (exact absurd hop (by decide))
      split at hx <;> try cases hx
      · split at hx
        · cases hx
        · split at hx <;> cases hx
      · rename_i el hu
        split at hx
        · rename_i hnil
          cases hxx : compOpd x with
          | none => rw [hxx] at hx; cases hx
          | some x2 =>
            rw [hxx] at hx; cases hx
            simp only [ndK, ndX]
            split at hn
            · rename_i hv
              have hvr := opd_sim ht hxx hv
              have hy0 := isNil_eval (a := a) hnil
              generalize hua : a.eval x = u at hvr
              have hform : ∃ ad l c, u = .slice ad l c := by cases hvr <;> exact ⟨_, _, _, rfl⟩
              obtain ⟨ad, l, c, rfl⟩ := hform
              refine ⟨_, _, ?_, exec_eqn hu (hop' _ rfl) hua hy0, .bool _⟩
              · simp only [List.mem_cons, V.bool.injEq, List.not_mem_nil, or_false]
                generalize (if (bop == BinOp.neq) = true then !ad.isNone else ad.isNone) = q
                cases q <;> simp
            · exact absurd rfl hn
        · cases hx
    all_goals (exfalso; revert hx; repeat' split)
    all_goals (first | contradiction | (intro hx; cases hx; done) | (intro hx; simp only [Option.map_eq_some_iff] at hx; obtain ⟨_, _, hx⟩ := hx; cases hx; done) | (intro hx; simp only [Option.bind_eq_some_iff] at hx; obtain ⟨_, _, hx⟩ := hx; cases hx; done) | (intro hx; simp at hx; done) | skip)
  · exact absurd hx (compOp0_x _ _ _)
end Go.Proofs.YtbifpocccfkhhaaGreatDoor
/- Code, compiled; what is to be shown of a function; the rule for calls. -/
namespace Go.Proofs.YtbifpocccfkhhaaGreatDoor
open Go

structure O' where
  dst : Option Nat
  g : Option (Nat × Bool)
  k : K
  deriving Inhabited

def dstOk (N : Nat) : Option Nat → Bool
  | none => true
  | some d => decide (d < N)

def compOper (P : Program) (N : Nat) (ops : Array Oper) (o : Oper) : Option O' :=
  match compOp P o with
  | none => none
  | some k => if dstOk N o.dst = true then
      match o.guard with
      | none => some ⟨o.dst, none, k⟩
      | some (j, want) => match (ops[j]?).bind (·.dst) with
        | some t => some ⟨o.dst, some (t, want), k⟩
        | none => none
    else none

def VRs (E : En) (args : List V) (us : Array Value) : Prop := args.length = us.size ∧ ∀ (i : Nat) (v : V) (u : Value), args[i]? = some v → us[i]? = some u → VR E v u

/-- A call of a function, in the words of abstract values: what it yields, and the store behind it. -/
def Spec (P : Program) (f : FuncId) (args : List V) (S : St) (R : V → St → Prop) : Prop :=
  (∀ as w, (callFunc f as).run P w = .ok (.enter f as) w) ∧
  ∀ (E : En) (w : World) (us : Array Value) (n : Nat), SR E S w → VRs E args us →
    CallsIn Fence.wide n P f us w fun e w' => ∃ u r E' S', e = .returned u ∧ R r S' ∧ VR E' r u ∧ SR E' S' w' ∧ Ext S.length E S w E' S' w' ∧ S.length ≤ S'.length

/-- A call of 'yield', in the words of abstract values: the record l. -/
def YSpec (P : Program) (l : Nat) (args : List V) (S : St) (R : V → St → Prop) : Prop :=
  ∀ (E : En) (w : World) (us : Array Value) (n : Nat) (x : Blk), SR E S w → VRs E args us → E.ρ l 0 = some x →
    ∃ f tmps asg body, (Instr.yield x.b us).run P w = .ok (.round x.b f tmps asg body) w ∧
      RoundIn Fence.wide n P x.b f tmps asg body w fun e w' => ∃ u r E' S', e = .returned u ∧ R r S' ∧ VR E' r u ∧ SR E' S' w' ∧ Ext S.length E S w E' S' w' ∧ S.length ≤ S'.length

theorem Spec.mono {P : Program} {f : FuncId} {args : List V} {S : St} {R R' : V → St → Prop} (h : Spec P f args S R) (hr : ∀ r S', R r S' → R' r S') : Spec P f args S R' :=
  ⟨h.1, fun E w us n hs hv => (h.2 E w us n hs hv).mono fun e w' ⟨u, r, E', S', h1, h2, h3⟩ => ⟨u, r, E', S', h1, hr _ _ h2, h3⟩⟩

/-- The next operation is wanted. -/
def wantedV (e : Env) : Option (Nat × Bool) → Option Bool
  | none => some true
  | some (t, want) => match e.get t with
    | some (.bool b) => some (b == want)
    | some (.tup []) => some false
    | _ => none

def wops (P : Program) : List O' → (Env → St → Prop) → Env → St → Prop
  | [], Q, e, S => Q e S
  | o :: os, Q, e, S => match wantedV e o.g with
    | none => False
    | some false => wops P os Q (e.put o.dst (.tup [])) S
    | some true => match o.k with
      | .call f args => match f.ev e, evs e args with
        | some (.fn (.func k) fs cs), some vs => ∃ R, Spec P k (fs ++ vs ++ cs) S R ∧ ∀ r S', R r S' → wops P os Q (e.put o.dst r) S'
        | some (.yld l), some vs => ∃ R, YSpec P l vs S R ∧ ∀ r S', R r S' → wops P os Q (e.put o.dst r) S'
        | _, _ => False
      | k => match evK e S k with
        | some (r, S') => wops P os Q (e.put o.dst r) S'
        | none => (ndK e k ≠ [] ∧ ∀ v, v ∈ ndK e k → wops P os Q (e.put o.dst v) S) ∨ (ndS e S k ≠ [] ∧ ∀ q, q ∈ ndS e S k → wops P os Q (e.put o.dst q.1) q.2)

abbrev Post := Exit → Env → St → Prop

def Env.sub (e' e : Env) : Prop := ∀ t v, e'.get t = some v → e.get t = some v

def fence (ro : Option Nat) : Fence := { Fence.wide with round := ro }

/-- What is asked of the machine behind a piece of code. -/
def Up (N n0 m0 : Nat) (E : En) (S : St) (w : World) (Q : Post) (x : Exit) (a' : Act) (w' : World) : Prop :=
  ∃ E' e' S', Rel N n0 m0 E' e' S' a' w' ∧ Ext n0 E S w E' S' w' ∧ Q x e' S'

theorem Up.back {N n0 m0 : Nat} {E E1 : En} {S S1 : St} {w w1 : World} {Q : Post} {x : Exit} {a : Act} {w' : World} (h : Ext n0 E S w E1 S1 w1) (g : Up N n0 m0 E1 S1 w1 Q x a w') : Up N n0 m0 E S w Q x a w' :=
  let ⟨E', e', S', r, x, q⟩ := g; ⟨E', e', S', r, h.trans x, q⟩

theorem semAt_plain {ro : Option Nat} {ρ : Operand → Value} {o : Oper} {P : Program} {k : K} (h : compOp P o = some k) : o.semAt ro ρ = execOp ρ o := by
  cases ro with
  | none => exact Oper.semAt_none ρ o
  | some l => exact Oper.semAt_some l ρ o fun c hc => by simp [compOp, compOp0, compX, hc] at h

theorem Rel.put {N n0 m0 : Nat} {E : En} {e : Env} {S : St} {a : Act} {w : World} (h : Rel N n0 m0 E e S a w) {d : Option Nat} {v : V} {u : Value} (hd : dstOk N d = true) (r : VR E v u) : Rel N n0 m0 E (e.put d v) S (a.put d u) w := by
  cases d with
  | none => exact h
  | some d =>
    simp [dstOk] at hd
    exact ⟨h.tmps.put (by rw [h.size]; exact hd) r, by simp [Act.put, h.size], h.defers, h.base, h.sr⟩

theorem Rel.step {N n0 m0 : Nat} {E E' : En} {e : Env} {S S' : St} {a : Act} {w w' : World} (h : Rel N n0 m0 E e S a w) (hs : SR E' S' w') (hx : Ext S.length E S w E' S' w') (hl : S.length ≤ S'.length) : Rel N n0 m0 E' e S' a w' :=
  ⟨h.tmps.mono (hx.le h.sr), h.size, Marks.step hx h.defers, Nat.le_trans h.base hl, hs⟩

theorem compOp_old {P : Program} {o : Oper} {k : K} (h : compOp P o = some k) (hx : ∀ x, k ≠ .ex x) : compOp0 P o = some k := by
  unfold compOp at h
  split at h
  · rename_i k' hk; cases h; exact hk
  · cases hx' : compX P o with
    | none => rw [hx'] at h; cases h
    | some x => rw [hx'] at h; cases h; exact absurd rfl (hx x)

theorem compOp_call {P : Program} {dst : Option Tmp} {op : Op} {type : TypeId} {pos : String} {after : Array Edge} {guard : Option (Nat × Bool)} {f : Opd} {args : List Opd} (hk : compOp P ⟨dst, op, type, pos, after, guard⟩ = some (.call f args)) :
    ∃ c f0, op = .call c ∧ c.callee = .value f0 ∧ compOpd f0 = some f ∧ c.args.toList.mapM compOpd = some args := by
  replace hk := compOp_old hk (fun x => by simp)
  by_cases hc : ∃ c, op = .call c
  · obtain ⟨c, rfl⟩ := hc
    simp only [compOp0] at hk
    split at hk
    · rename_i f0 args' h1 h2
      cases h3 : compOpd f0 with
      | none => rw [h3] at hk; cases hk
      | some f1 => rw [h3] at hk; cases hk; exact ⟨c, f0, rfl, h1, h3, h2⟩
    · exfalso; repeat' split at hk
      all_goals cases hk
    · rename_i h1 h2
      cases h3 : appTy P c.argTypes <;> rw [h3] at hk <;> cases hk
    · cases hk
  · exfalso
    cases op <;> first | (exact hc ⟨_, rfl⟩) | skip
    all_goals (simp only [compOp0] at hk)
    all_goals (first | (cases hk; done) | (simp at hk; done) | (revert hk; repeat' split) )
    all_goals (first | contradiction | (intro hk; cases hk; done) | (intro hk; simp at hk; done) | skip)

theorem wpListIn_mono {F : Fence} {n : Nat} {P : Program} {ops : Array Oper} {Q Q' : Exit → Act → World → Prop} (hq : ∀ x a w, Q x a w → Q' x a w) : ∀ {l : List Oper} {a : Act} {w : World}, wpListIn F n P ops Q l a w → wpListIn F n P ops Q' l a w
  | [], a, w, h => hq _ _ _ h
  | o :: l, a, w, h => by
    have hlet : LetsOut Q → LetsOut Q' := fun ⟨a, w, h⟩ => ⟨a, w, hq _ _ _ h⟩
    simp only [wpListIn] at h ⊢
    split
    · rename_i hw
      rw [if_pos hw] at h
      obtain ⟨h1, h2⟩ := h
      refine ⟨h1, ?_⟩
      generalize (o.semAt F.round a.eval).run P w = r at h2 ⊢
      cases r with
      | ok nx w' =>
        cases nx <;> simp only [Oper.uponIn] at h2 ⊢
        case value v => exact wpListIn_mono hq h2
        case skip => exact wpListIn_mono hq h2
        case defer d => exact wpListIn_mono hq h2
        case enter f args => exact ⟨h2.1, h2.2.mono fun e w'' he => by cases e <;> first | exact wpListIn_mono hq he | exact hq _ _ _ he | exact hlet he⟩
        case row r args => exact ⟨h2.1, h2.2.mono fun v w'' he => wpListIn_mono hq he⟩
        case round l f t x y => exact ⟨h2.1, h2.2.mono fun e w'' he => by cases e <;> first | exact wpListIn_mono hq he | exact hq _ _ _ he | exact hlet he⟩
      | halt x w' =>
        cases x <;> simp only [Oper.uponIn] at h2 ⊢
        case panic v => exact hq _ _ _ h2
    · rename_i hw
      rw [if_neg hw] at h
      exact ⟨h.1, wpListIn_mono hq h.2⟩

/-- An operation that calls no function. -/
theorem op_plain {P : Program} {ro : Option Nat} {n : Nat} {o : Oper} {k : K} {E : En} {e : Env} {S S' : St} {r : V} {a : Act} {w : World} {next : Act → World → Prop} {Q : Exit → Act → World → Prop} (hk : compOp P o = some k) (ht : Tmps E e a.tmps) (hs : SR E S w) (hev : evK e S k = some (r, S'))
    (hn : ∀ E' u w', VR E' r u → SR E' S' w' → Ext S.length E S w E' S' w' → S.length ≤ S'.length → next (a.put o.dst u) w') : o.wpIn (fence ro) n P a w next Q := by
  refine ⟨fun f hf => trivial, ?_⟩
  rw [show o.semAt (fence ro).round a.eval = execOp a.eval o from semAt_plain hk]
  obtain ⟨nx, E', w', hrun, hnr, hsr, hext, hlen⟩ := evK_sim hk hev ht hs
  rw [hrun]
  rcases hnr with ⟨u, rfl, hvr⟩ | ⟨rfl, rfl⟩
  · exact hn E' u w' hvr hsr hext hlen
  · exact hn E' undef w' (.tup (by simp) (fun i v u h => by simp at h)) hsr hext hlen

/-- An operation that yields one of several values. -/
theorem op_nd {P : Program} {ro : Option Nat} {n : Nat} {o : Oper} {k : K} {E : En} {e : Env} {S : St} {a : Act} {w : World} {next : Act → World → Prop} {Q : Exit → Act → World → Prop} (hk : compOp P o = some k) (hnd : ndK e k ≠ []) (ht : Tmps E e a.tmps) (hs : SR E S w)
    (hn : ∀ v u, v ∈ ndK e k → VR E v u → next (a.put o.dst u) w) : o.wpIn (fence ro) n P a w next Q := by
  refine ⟨fun f hf => trivial, ?_⟩
  rw [show o.semAt (fence ro).round a.eval = execOp a.eval o from semAt_plain hk]
  obtain ⟨v, u, hv, hrun, hvr⟩ := ndK_sim hk hnd ht hs
  rw [hrun]
  exact hn v u hv hvr

/-- An operation that does one of several things. -/
theorem op_nds {P : Program} {ro : Option Nat} {n : Nat} {o : Oper} {k : K} {E : En} {e : Env} {S : St} {a : Act} {w : World} {next : Act → World → Prop} {Q : Exit → Act → World → Prop} (hk : compOp P o = some k) (hnd : ndS e S k ≠ []) (ht : Tmps E e a.tmps) (hs : SR E S w)
    (hn : ∀ q E' u w', q ∈ ndS e S k → VR E' q.1 u → SR E' q.2 w' → Ext S.length E S w E' q.2 w' → S.length ≤ q.2.length → next (a.put o.dst u) w') : o.wpIn (fence ro) n P a w next Q := by
  refine ⟨fun f hf => trivial, ?_⟩
  rw [show o.semAt (fence ro).round a.eval = execOp a.eval o from semAt_plain hk]
  obtain ⟨q, hq, nx, E', w', hrun, hnr, hsr, hext, hlen⟩ := ndS_sim hk hnd ht hs
  rw [hrun]
  rcases hnr with ⟨u, rfl, hvr⟩ | ⟨rfl, hv⟩
  · exact hn q E' u w' hq hvr hsr hext hlen
  · exact hn q E' undef w' hq (by rw [hv]; exact .tup (by simp) (fun i v u h => by simp at h)) hsr hext hlen

/-- A call. -/
theorem op_call {P : Program} {ro : Option Nat} {n : Nat} {o : Oper} {f : Opd} {args : List Opd} {kf : FuncId} {fs cs vs : List V} {R : V → St → Prop} {E : En} {e : Env} {S : St} {a : Act} {w : World} {next : Act → World → Prop} {Q : Exit → Act → World → Prop} (hk : compOp P o = some (.call f args)) (ht : Tmps E e a.tmps) (hs : SR E S w)
    (hf : f.ev e = some (.fn (.func kf) fs cs)) (hvs : evs e args = some vs) (hspec : Spec P kf (fs ++ vs ++ cs) S R)
    (hn : ∀ r S' E' u w', R r S' → VR E' r u → SR E' S' w' → Ext S.length E S w E' S' w' → S.length ≤ S'.length → next (a.put o.dst u) w') : o.wpIn (fence ro) n P a w next Q := by
  refine ⟨fun f hf => trivial, ?_⟩
  rw [show o.semAt (fence ro).round a.eval = execOp a.eval o from semAt_plain hk]
  obtain ⟨dst, op, type, pos, after, guard⟩ := o
  obtain ⟨c, f0, rfl, h1, h2, h3⟩ := compOp_call hk
  have hfv := opd_sim ht h2 hf
  obtain ⟨a1, a2⟩ := list_opds ht h3 hvs
  generalize hu : a.eval f0 = u at hfv
  have a1' : vs.length = c.args.size := by simpa using a1
  obtain ⟨us, ws, rfl, b1, b2, b3, b4⟩ : ∃ us ws, u = .func (.func kf) us ws ∧ fs.length = us.size ∧ cs.length = ws.size ∧ (∀ (i : Nat) (v : V) (u : Value), fs[i]? = some v → us[i]? = some u → VR E v u) ∧ (∀ (i : Nat) (v : V) (u : Value), cs[i]? = some v → ws[i]? = some u → VR E v u) := by
    cases hfv with
    | fn h1 h2 g1 g2 => exact ⟨_, _, rfl, h1, h2, g1, g2⟩
  have hrun : (execOp a.eval ⟨dst, .call c, type, pos, after, guard⟩).run P w = .ok (.enter kf (us ++ c.args.map a.eval ++ ws)) w := by
    simp only [execOp, resolve, h1, hu, Deferred.ofValue, Sem.run_bind, Sem.run_pure, Result.andThen, invoke]
    exact hspec.1 _ w
  rw [hrun]
  simp only [Oper.uponIn]
  refine ⟨fun hd => by simp [fence, Fence.wide] at hd, ?_⟩
  have hargs : VRs E (fs ++ vs ++ cs) (us ++ c.args.map a.eval ++ ws) := by
    refine ⟨by simp [b1, b2, a1'], fun i v u hv hu => ?_⟩
    rw [List.append_assoc] at hv
    rw [Array.append_assoc] at hu
    by_cases hi : i < fs.length
    · rw [List.getElem?_append_left hi] at hv
      rw [Array.getElem?_append_left (by omega)] at hu
      exact b3 i v u hv hu
    · rw [List.getElem?_append_right (by omega)] at hv
      rw [Array.getElem?_append_right (by omega), ← b1] at hu
      by_cases hj : i - fs.length < vs.length
      · rw [List.getElem?_append_left hj] at hv
        rw [Array.getElem?_append_left (by simp; omega)] at hu
        simp only [Array.getElem?_map, Option.map_eq_some_iff] at hu
        obtain ⟨o, ho, rfl⟩ := hu
        exact a2 _ v o hv (by simpa using ho)
      · rw [List.getElem?_append_right (by omega)] at hv
        rw [Array.getElem?_append_right (by simp; omega)] at hu
        rw [show i - fs.length - (c.args.map a.eval).size = i - fs.length - vs.length by simp [a1']] at hu
        exact b4 _ v u hv hu
  have hcalls := hspec.2 E w _ (n - 1) hs hargs
  refine CallsIn.mono (show CallsIn (fence ro) (n - 1) P kf _ w _ from hcalls) ?_
  rintro ed w' ⟨uv, r, E', S', rfl, hR, hvr, hsr, hext, hlen⟩
  exact hn r S' E' uv w' hR hvr hsr hext hlen

/-- A call of 'yield'. -/
theorem op_yield {P : Program} {ro : Option Nat} {n : Nat} {o : Oper} {f : Opd} {args : List Opd} {ly : Nat} {vs : List V} {R : V → St → Prop} {E : En} {e : Env} {S : St} {a : Act} {w : World} {next : Act → World → Prop} {Q : Exit → Act → World → Prop} (hk : compOp P o = some (.call f args)) (ht : Tmps E e a.tmps) (hs : SR E S w)
    (hf : f.ev e = some (.yld ly)) (hvs : evs e args = some vs) (hspec : YSpec P ly vs S R)
    (hn : ∀ r S' E' u w', R r S' → VR E' r u → SR E' S' w' → Ext S.length E S w E' S' w' → S.length ≤ S'.length → next (a.put o.dst u) w') : o.wpIn (fence ro) n P a w next Q := by
  refine ⟨fun f hf => trivial, ?_⟩
  rw [show o.semAt (fence ro).round a.eval = execOp a.eval o from semAt_plain hk]
  obtain ⟨dst, op, type, pos, after, guard⟩ := o
  obtain ⟨c, f0, rfl, h1, h2, h3⟩ := compOp_call hk
  have hfv := opd_sim ht h2 hf
  obtain ⟨a1, a2⟩ := list_opds ht h3 hvs
  generalize hu : a.eval f0 = u at hfv
  have a1' : vs.length = c.args.size := by simpa using a1
  cases hfv with
  | yld hx =>
    rename_i x
    obtain ⟨fn, tmps, asg, body, hy, hround⟩ := hspec E w (c.args.map a.eval) (n - 1) x hs ⟨by simp [a1'], fun i v u hv hu => by
      simp only [Array.getElem?_map, Option.map_eq_some_iff] at hu
      obtain ⟨o, ho, rfl⟩ := hu
      exact a2 _ v o hv (by simpa using ho)⟩ hx
    have hrun : (execOp a.eval ⟨dst, .call c, type, pos, after, guard⟩).run P w = .ok (.round x.b fn tmps asg body) w := by
      simp only [execOp, resolve, h1, hu, Deferred.ofValue, Sem.run_bind, Sem.run_pure, Result.andThen, invoke, Array.empty_append]
      exact hy
    rw [hrun, Oper.uponIn_round]
    refine ⟨fun hd => by simp [fence, Fence.wide] at hd, ?_⟩
    refine RoundIn.mono (show RoundIn (fence ro) (n - 1) P _ _ _ _ _ w _ from hround) ?_
    rintro ed w' ⟨uv, r, E', S', rfl, hR, hvr, hsr, hext, hlen⟩
    exact hn r S' E' uv w' hR hvr hsr hext hlen

/-- Whether an operation is wanted. -/
theorem guard_sound {P : Program} {N : Nat} {ops : Array Oper} {o : Oper} {o' : O'} (h : compOper P N ops o = some o') :
    o'.dst = o.dst ∧ dstOk N o.dst = true ∧ compOp P o = some o'.k ∧ ∀ (E : En) (e : Env) (a : Act) (b : Bool), (∀ t w, o'.g = some (t, w) → ∀ v, e.get t = some v → ∃ u, a.tmps[t]? = some u ∧ VR E v u) → wantedV e o'.g = some b → Region.wanted o (yielded ops a.tmps) = b := by
  unfold compOper at h
  split at h
  · cases h
  rename_i k hk
  split at h
  case isFalse => cases h
  rename_i hd
  split at h
  · rename_i hgd
    cases h
    exact ⟨rfl, hd, hk, fun E e a b _ hb => by cases hb; simp [Region.wanted, hgd]⟩
  · rename_i j want hgd
    split at h <;> cases h
    rename_i t ht
    refine ⟨rfl, hd, hk, fun E e a b hr hb => ?_⟩
    simp only [wantedV] at hb
    split at hb <;> cases hb
    · rename_i bb hbb
      obtain ⟨u, hu, hv⟩ := hr _ _ rfl _ hbb
      cases hv
      simp [Region.wanted, hgd, yielded, ht, hu]
    · rename_i hbb
      obtain ⟨u, hu, hv⟩ := hr _ _ rfl _ hbb
      cases hv
      simp [Region.wanted, hgd, yielded, ht, hu]

theorem wops_sound {P : Program} {N n0 m0 : Nat} {ro : Option Nat} {n : Nat} {ops : Array Oper} {Q : Post} : ∀ (l : List Oper) (l' : List O') (E : En) (e : Env) (S : St) (a : Act) (w : World),
    l.mapM (compOper P N ops) = some l' → Rel N n0 m0 E e S a w → wops P l' (Q .normal) e S → wpListIn (fence ro) n P ops (Up N n0 m0 E S w Q) l a w
  | [], l', E, e, S, a, w, hc, hr, h => by
    simp at hc; subst hc
    exact ⟨E, e, S, hr, Ext.refl _ _ _ _, h⟩
  | o :: l, l', E, e, S, a, w, hc, hr, h => by
    simp only [List.mapM_cons, Option.bind_eq_bind] at hc
    cases ho : compOper P N ops o with
    | none => rw [ho] at hc; simp at hc
    | some o' =>
      rw [ho] at hc
      cases hl : l.mapM (compOper P N ops) with
      | none => rw [hl] at hc; simp at hc
      | some l2 =>
        rw [hl] at hc
        simp at hc
        subst hc
        obtain ⟨hdst, hd, hk, hg⟩ := guard_sound ho
        simp only [wops] at h
        rw [hdst] at h
        cases hw : wantedV e o'.g with
        | none => rw [hw] at h; exact h.elim
        | some b =>
          rw [hw] at h
          have hwd := hg E e a b (fun t _ _ v hv => hr.tmps t v hv) hw
          simp only [wpListIn]
          cases b with
          | false =>
            rw [hwd]
            simp only [Bool.false_eq_true, if_false]
            refine ⟨fun f hf => trivial, ?_⟩
            exact wops_sound l l2 E _ S _ w hl (hr.put hd (.tup (by simp) (fun i v u h => by simp at h))) h
          | true =>
            rw [hwd]
            simp only [if_true]
            generalize hkk : o'.k = k at h hk
            by_cases hcall : ∃ f args, k = .call f args
            · obtain ⟨f, args, rfl⟩ := hcall
              simp only at h
              split at h <;> try exact h.elim
              · rename_i kf fs cs vs hf hvs
                obtain ⟨R, hspec, hnext⟩ := h
                refine op_call hk hr.tmps hr.sr hf hvs hspec fun r S' E' u w' hR hvr hsr hext hlen => ?_
                have hr' := (hr.step hsr hext hlen).put hd hvr
                have := wops_sound (n := n) (ro := ro) (Q := Q) l l2 E' _ S' _ w' hl hr' (hnext r S' hR)
                exact wpListIn_mono (fun x a' w'' hq => hq.back (hext.less hr.base)) this
              · rename_i ly vs hf hvs
                obtain ⟨R, hspec, hnext⟩ := h
                refine op_yield hk hr.tmps hr.sr hf hvs hspec fun r S' E' u w' hR hvr hsr hext hlen => ?_
                have hr' := (hr.step hsr hext hlen).put hd hvr
                have := wops_sound (n := n) (ro := ro) (Q := Q) l l2 E' _ S' _ w' hl hr' (hnext r S' hR)
                exact wpListIn_mono (fun x a' w'' hq => hq.back (hext.less hr.base)) this
            · have h' : match evK e S k with
                | some (r, S') => wops P l2 (Q .normal) (e.put o.dst r) S'
                | none => (ndK e k ≠ [] ∧ ∀ v, v ∈ ndK e k → wops P l2 (Q .normal) (e.put o.dst v) S) ∨ (ndS e S k ≠ [] ∧ ∀ q, q ∈ ndS e S k → wops P l2 (Q .normal) (e.put o.dst q.1) q.2) := by
                cases k <;> first | exact h | exact absurd ⟨_, _, rfl⟩ hcall
              cases hev : evK e S k with
              | none =>
                rw [hev] at h'
                rcases h' with h' | h'
                · refine op_nd hk h'.1 hr.tmps hr.sr fun v u hv hvr => ?_
                  exact wops_sound l l2 E _ S _ w hl (hr.put hd hvr) (h'.2 v hv)
                · refine op_nds hk h'.1 hr.tmps hr.sr fun q E' u w' hq hvr hsr hext hlen => ?_
                  have hr' := (hr.step hsr hext hlen).put hd hvr
                  have := wops_sound (n := n) (ro := ro) (Q := Q) l l2 E' _ q.2 _ w' hl hr' (h'.2 q hq)
                  exact wpListIn_mono (fun x a' w'' hq => hq.back (hext.less hr.base)) this
              | some rs =>
                obtain ⟨r, S'⟩ := rs
                rw [hev] at h'
                refine op_plain hk hr.tmps hr.sr hev fun E' u w' hvr hsr hext hlen => ?_
                have hr' := (hr.step hsr hext hlen).put hd hvr
                have := wops_sound (n := n) (ro := ro) (Q := Q) l l2 E' _ S' _ w' hl hr' h'
                exact wpListIn_mono (fun x a' w'' hq => hq.back (hext.less hr.base)) this
end Go.Proofs.YtbifpocccfkhhaaGreatDoor
/- Objects that are kept for an allocation that is still to come; what an operation hangs on. -/
namespace Go.Proofs.YtbifpocccfkhhaaGreatDoor
open Go

/-- An object that lies nowhere yet. -/
theorem SR.phantom {E : En} {S : St} {w : World} (h : SR E S w) {z : V} (h0 : 0 < z.size) : SR E (S ++ [.arr [z] z.size 1]) w ∧ ∀ n, Ext n E S w E (S ++ [.arr [z] z.size 1]) w := by
  have hno : ∀ st, E.ρ S.length st = none := fun st => by
    cases hr : E.ρ S.length st with
    | none => rfl
    | some x => exact absurd (h.dom _ _ _ hr) (by omega)
  have hlv : ∀ l st x, live (S ++ [.arr [z] z.size 1]) l → E.ρ l st = some x → live S l := fun l st x hl hx => by
    rcases live_append hl with hl | rfl
    · exact hl
    · rw [hno] at hx; cases hx
  have hown : ∀ b, own E (S ++ [.arr [z] z.size 1]) b → own E S b := fun b ⟨l, st, x, hl, hx, he⟩ => ⟨l, st, x, hlv l st x hl hx, hx, he⟩
  refine ⟨⟨h.gl, h.I, fun l o ho => ?_, fun l st x hx => by have := h.dom _ _ _ hx; simp; omega, fun b o hb => h.apart b o (hown b hb), fun b hb => h.lt b (hown b hb), fun l l' st st' x x' hl hl' hx hx' he => h.inj l l' st st' x x' (hlv l st x hl hx) (hlv l' st' x' hl' hx') hx hx' he⟩,
    fun n => ⟨Nat.le_refl _, fun _ _ _ h => h, fun _ _ _ _ h => h, fun _ _ h => h, fun b hb => .inl (hown b hb), fun _ _ _ h => .inl h, fun _ _ _ => rfl, rfl⟩⟩
  rcases Nat.lt_or_ge l S.length with hl | hl
  · rw [List.getElem?_append_left hl] at ho; exact h.obs l o ho
  · have hlt := (List.getElem?_eq_some_iff.1 ho).1
    simp at hlt
    have : l = S.length := by omega
    subst this
    simp at ho; subst ho
    refine ⟨⟨h0, by simp⟩, fun v hv => by simp at hv; subst hv; rfl, fun st x hx => ?_⟩
    rw [hno] at hx; cases hx

def phs (zs : List V) : St := zs.map fun z => .arr [z] z.size 1

theorem SR.phantoms {E : En} {w : World} : ∀ (zs : List V) {S : St}, SR E S w → (∀ z, z ∈ zs → 0 < z.size) → SR E (S ++ phs zs) w ∧ ∀ n, Ext n E S w E (S ++ phs zs) w
  | [], S, h, _ => by simp [phs]; exact ⟨h, fun n => Ext.refl _ _ _ _⟩
  | z :: zs, S, h, h0 => by
    obtain ⟨a, b⟩ := h.phantom (h0 z (by simp))
    obtain ⟨c, d⟩ := SR.phantoms zs a fun z hz => h0 z (by simp [hz])
    rw [List.append_assoc] at c d
    exact ⟨c, fun n => (b n).trans (d n)⟩

/-- Such an object is laid. -/
theorem SR.real {E : En} {S : St} {w : World} (h : SR E S w) {l : Nat} {ob : Ob} {o : Obj} {st N sz : Nat} (hl : S[l]? = some ob) (hno : ∀ st, E.ρ l st = none)
    (ho : OR (E.at l st ⟨w.heap.size, N, sz⟩) { w with heap := w.heap.push o } l ob) :
    SR (E.at l st ⟨w.heap.size, N, sz⟩) S { w with heap := w.heap.push o } ∧ E.le (E.at l st ⟨w.heap.size, N, sz⟩) ∧
    ∀ n, n ≤ l → Ext n E S w (E.at l st ⟨w.heap.size, N, sz⟩) S { w with heap := w.heap.push o } := by
  have hle : E.le (E.at l st ⟨w.heap.size, N, sz⟩) := at_le (hno st)
  have key : ∀ l' st' x, live S l' → (E.at l st ⟨w.heap.size, N, sz⟩).ρ l' st' = some x → (l' = l ∧ x.b = w.heap.size) ∨ (l' ≠ l ∧ E.ρ l' st' = some x ∧ x.b < w.heap.size) := by
    intro l' st' x hl' hx
    by_cases hk : l' = l
    · subst hk
      by_cases hs : st' = st
      · subst hs; rw [at_same] at hx; cases hx; exact .inl ⟨rfl, rfl⟩
      · simp [En.at, hs, hno] at hx
    · rw [at_other hk] at hx
      exact .inr ⟨hk, hx, h.lt _ ⟨l', st', x, hl', hx, rfl⟩⟩
  have hown : ∀ b, own (E.at l st ⟨w.heap.size, N, sz⟩) S b → own E S b ∨ b = w.heap.size := by
    rintro b ⟨l', st', x, hl', hx, rfl⟩
    rcases key l' st' x hl' hx with ⟨_, h2⟩ | ⟨_, h2, _⟩
    · exact .inr h2
    · exact .inl ⟨l', st', x, hl', h2, rfl⟩
  refine ⟨⟨h.gl.old hle.1 (fun b _ _ _ hb _ => push_old (heap_lt hb)), ?_, ?_, ?_, ?_, ?_, ?_⟩, hle, fun n hn => ⟨by simp, hle.1, fun l st' x _ hx => hle.2 l st' x hx, fun l' hl' hx st' => by rw [at_other (by omega)]; exact hx st', fun b hb => (hown b hb).imp id (fun e => by omega), fun b o c hc => .inl hc, fun b hb _ => push_old hb, rfl⟩⟩
  · intro b o' c hc
    have := h.I b o' c hc
    rw [cell?_heap (push_old (cell?_lt this))]; exact this
  · intro l' o' hl'
    by_cases hk : l' = l
    · subst hk; rw [hl] at hl'; cases hl'; exact ho
    · by_cases hd : o' = .dead
      · subst hd; trivial
      exact (h.obs l' o' hl').mono hle (fun st' x hx => by rw [at_other hk] at hx; exact hx) (fun st' x hx => push_old (h.lt _ ⟨l', st', x, ⟨o', hl', hd⟩, hx, rfl⟩))
  · intro l' st' x hx
    by_cases hk : l' = l
    · subst hk; exact (List.getElem?_eq_some_iff.1 hl).1
    · rw [at_other hk] at hx; exact h.dom _ _ _ hx
  · intro b o' hb
    rcases hown b hb with hb | rfl
    · exact h.apart b o' hb
    · cases hc : E.I w.heap.size o' with
      | none => exact hc
      | some c => exact absurd (cell?_lt (h.I _ _ _ hc)) (by omega)
  · intro b hb
    rcases hown b hb with hb | rfl
    · have := h.lt b hb; simp; omega
    · simp
  · intro l1 l2 st1 st2 x x' hl1 hl2 hx hx' hb
    rcases key l1 st1 x hl1 hx with ⟨h1, h2⟩ | ⟨h1, h3, h4⟩ <;> rcases key l2 st2 x' hl2 hx' with ⟨g1, g2⟩ | ⟨g1, g3, g4⟩
    · omega
    · omega
    · omega
    · exact h.inj l1 l2 st1 st2 x x' hl1 hl2 h3 g3 hb

theorem SR.realBox {E : En} {S : St} {w : World} {l : Nat} {z : V} {d : Value} {t : TypeId} (h : SR E S w) (hl : S[l]? = some (.arr [z] z.size 1)) (hno : ∀ st, E.ρ l st = none) (h0 : 0 < z.size) (hf : (z.cells.all V.flat) = true) (hz : VR E z d) :
    ∃ E', SR E' S { w with heap := w.heap.push (.cells d.cells t (0, 0)) } ∧ E.le E' ∧ (∀ n, n ≤ l → Ext n E S w E' S { w with heap := w.heap.push (.cells d.cells t (0, 0)) }) ∧ (∀ l' st, l' ≠ l → E'.ρ l' st = E.ρ l' st) ∧ VR E' (.ptr l 0 0 1) (.pointer (some ⟨w.heap.size, 0, none⟩)) := by
  obtain ⟨h1, h2⟩ := hz.cells (flat_ne_top hf)
  obtain ⟨n1, n2, n3⟩ := h.real (o := .cells d.cells t (0, 0)) (st := 1) (N := d.cells.size) (sz := z.size) hl hno (by
    refine ⟨⟨h0, by simp⟩, fun v hv => by simp at hv; subst hv; rfl, fun st y hy hst => ?_⟩
    by_cases hs1 : st = 1
    · subst hs1
      rw [at_same] at hy; cases hy
      refine ⟨by simp, rfl, d.cells, t, push_new, rfl, by simp [V.size, h1], fun i v hv hi j c hc => ?_⟩
      have hi0 : i = 0 := by omega
      subst hi0
      simp at hv; subst hv
      obtain ⟨e, he, hr⟩ := hz.cells_ex (flat_ne_top hf) hc
      exact ⟨e, by simpa using he, hr.mono (at_le (hno 1))⟩
    · exfalso
      simp only [En.at] at hy
      rw [if_neg (by simp; exact hs1), hno] at hy; cases hy)
  refine ⟨_, n1, n2, n3, fun l' st hl' => at_other hl', ?_⟩
  have := VR.ptr (E := E.at l 1 ⟨w.heap.size, d.cells.size, z.size⟩) (l := l) (st := 1) 0 0 at_same
  simpa using this

theorem compOp_new {P : Program} {o : Oper} {z : V} (h : compOp P o = some (.new z)) : ∃ t i zv, o.op = .alloc t ∧ P.info? t = some i ∧ i.zero = some zv ∧ z = vOf zv := by
  obtain ⟨dst, op, type, pos, after, guard⟩ := o
  replace h := compOp_old h (fun x => by simp)
  by_cases hc : ∃ t, op = .alloc t
  · obtain ⟨t, rfl⟩ := hc
    simp only [compOp0] at h
    split at h <;> try cases h
    rename_i i hi
    split at h <;> cases h
    rename_i z hz
    exact ⟨t, i, z, rfl, hi, hz, rfl⟩
  · exfalso
    cases op <;> first | (exact hc ⟨_, rfl⟩) | skip
    all_goals (simp only [compOp0] at h)
    all_goals (first | (cases h; done) | (simp at h; done) | (revert h; repeat' split) )
    all_goals (first | contradiction | (intro h; cases h; done) | (intro h; simp at h; done) | skip)

/-- An allocation in a place that was kept for it. -/
theorem op_slot {P : Program} {ro : Option Nat} {n : Nat} {o : Oper} {z : V} {E : En} {S : St} {a : Act} {w : World} {next : Act → World → Prop} {Q : Exit → Act → World → Prop} {l : Nat} (hk : compOp P o = some (.new z)) (hs : SR E S w) (hl : S[l]? = some (.arr [z] z.size 1)) (hno : ∀ st, E.ρ l st = none) (h0 : 0 < z.size) (hf : (z.cells.all V.flat) = true)
    (hn : ∀ E' u w', VR E' (.ptr l 0 0 1) u → SR E' S w' → E.le E' → (∀ n, n ≤ l → Ext n E S w E' S w') → (∀ l' st, l' ≠ l → E'.ρ l' st = E.ρ l' st) → next (a.put o.dst u) w') : o.wpIn (fence ro) n P a w next Q := by
  refine ⟨fun f hf => trivial, ?_⟩
  rw [show o.semAt (fence ro).round a.eval = execOp a.eval o from semAt_plain hk]
  obtain ⟨t, i, zv, hop, hi, hz, rfl⟩ := compOp_new hk
  obtain ⟨E', b1, b2, b3, b4, b5⟩ := hs.realBox (t := t) hl hno h0 hf (vOf_spec E zv)
  obtain ⟨dst, op, type, pos, after, guard⟩ := o
  cases hop
  have hrun : (execOp a.eval ⟨dst, .alloc t, type, pos, after, guard⟩).run P w = .ok (.value (.pointer (some ⟨w.heap.size, 0, none⟩))) { w with heap := w.heap.push (.cells zv.cells t (0, 0)) } := by
    have : (Instr.alloc t true (.tuple #[])).run P w = .ok (.pointer (some ⟨w.heap.size, 0, none⟩)) { w with heap := w.heap.push (.cells zv.cells t (0, 0)) } := by
      simp [Instr.alloc, newVar, Sem.run_bind, run_zeroValue hi hz, Result.andThen, run_newRow]
    simp only [execOp, Sem.run_bind, this, Result.andThen, Sem.run_pure]
  rw [hrun]
  exact hn E' _ _ b5 b1 b2 b3 b4

/-! What an operation hangs on. -/
def K.tmps : K → List Nat
  | .mv x | .box x | .nck x | .un _ x | .fa _ x | .fld _ _ x | .ext _ x | .len _ x | .conv _ x | .ld _ x => x.tmps
  | .pick c a b => c.tmps ++ a.tmps ++ b.tmps
  | .new _ => []
  | .build _ ps => ps.flatMap fun p => p.2.2.2.tmps
  | .bsl _ xs => xs.flatMap Opd.tmps
  | .sto _ a x | .bin _ a x | .eq _ _ a x | .ia _ a x | .idx a x | .app _ _ a x => a.tmps ++ x.tmps
  | .slc _ _ x lo hi => x.tmps ++ lo.toList.flatMap Opd.tmps ++ hi.toList.flatMap Opd.tmps
  | .mkf _ fs cs => fs.flatMap Opd.tmps ++ cs.flatMap Opd.tmps
  | .call f xs => f.tmps ++ xs.flatMap Opd.tmps
  | .ex k => k.tmps

def Agree (ts : List Nat) (e e' : Env) : Prop := ∀ t, t ∈ ts → e'.get t = e.get t

theorem Agree.sub {ts us : List Nat} {e e' : Env} (h : Agree ts e e') (hs : ∀ t, t ∈ us → t ∈ ts) : Agree us e e' := fun t ht => h t (hs t ht)

theorem ev_agree {e e' : Env} {x : Opd} (h : Agree x.tmps e e') : x.ev e' = x.ev e := by
  cases x with
  | t n => exact h n (by simp [Opd.tmps])
  | c v => rfl
  | f k => rfl
theorem evs_agree {e e' : Env} : ∀ {xs : List Opd}, Agree (xs.flatMap Opd.tmps) e e' → evs e' xs = evs e xs
  | [], _ => rfl
  | x :: xs, h => by
    simp only [evs]
    rw [ev_agree (x := x) (fun t ht => h t (by simp [ht])), evs_agree (xs := xs) (fun t ht => h t (by
      simp only [List.flatMap_cons, List.mem_append]; exact .inr ht))]
theorem evParts_agree {e e' : Env} : ∀ {ps : List (Nat × Nat × Nat × Opd)}, Agree (ps.flatMap fun p => p.2.2.2.tmps) e e' → evParts e' ps = evParts e ps
  | [], _ => rfl
  | (f, o, n, x) :: ps, h => by
    simp only [evParts]
    rw [ev_agree (x := x) (fun t ht => h t (by simp [ht])), evParts_agree (ps := ps) (fun t ht => h t (by
      simp only [List.flatMap_cons, List.mem_append]; exact .inr ht))]
theorem evInt_agree {e e' : Env} {x : Option Opd} (h : Agree (x.toList.flatMap Opd.tmps) e e') : evInt e' x = evInt e x := by
  cases x with
  | none => rfl
  | some x => simp only [evInt]; rw [ev_agree (x := x) (fun t ht => h t (by simpa using ht))]

theorem evX_agree {e e' : Env} {S : St} {k : X} (h : Agree k.tmps e e') : evX e' S k = evX e S k := by
  cases k <;> simp only [X.tmps] at h <;> simp only [evX]
  case eqs n s os x y => rw [ev_agree (h.sub (us := x.tmps) (by simp; grind)), ev_agree (h.sub (us := y.tmps) (by simp; grind))]
  case eqn n x => rw [ev_agree h]
  case lkp kd z ok x y => rw [ev_agree (h.sub (us := x.tmps) (by simp; grind)), ev_agree (h.sub (us := y.tmps) (by simp; grind))]
  case mup kd x y z => rw [ev_agree (h.sub (us := x.tmps) (by simp; grind)), ev_agree (h.sub (us := y.tmps) (by simp; grind)), ev_agree (h.sub (us := z.tmps) (by simp; grind))]
  case mks sz b z x y => rw [ev_agree (h.sub (us := x.tmps) (by simp; grind)), ev_agree (h.sub (us := y.tmps) (by simp; grind))]
  case iaa n sz x y => rw [ev_agree (h.sub (us := x.tmps) (by simp; grind)), ev_agree (h.sub (us := y.tmps) (by simp; grind))]
  case cts x => rw [ev_agree h]
  case ctb x => rw [ev_agree h]
  case rng x => rw [ev_agree h]
  case ent x => rw [ev_agree h]
  case wrap n x => rw [ev_agree h]
  case del kd x y => rw [ev_agree (h.sub (us := x.tmps) (by simp; grind)), ev_agree (h.sub (us := y.tmps) (by simp; grind))]
  case ixa n sz kd x y => rw [ev_agree (h.sub (us := x.tmps) (by simp; grind)), ev_agree (h.sub (us := y.tmps) (by simp; grind))]
  case mm m x y => rw [ev_agree (h.sub (us := x.tmps) (by simp; grind)), ev_agree (h.sub (us := y.tmps) (by simp; grind))]

theorem evK_agree {e e' : Env} {S : St} {k : K} (h : Agree k.tmps e e') : evK e' S k = evK e S k := by
  cases k <;> simp only [K.tmps] at h <;> simp only [evK]
  case mv x => rw [ev_agree h]
  case pick c a b =>
    have ha := ev_agree (h.sub (us := a.tmps) (by simp; grind))
    have hb := ev_agree (h.sub (us := b.tmps) (by simp; grind))
    rw [ev_agree (h.sub (us := c.tmps) (by simp; grind))]
    split
    · rename_i t _; cases t <;> simp [ha, hb]
    · rfl
  case box x => rw [ev_agree h]
  case build z ps => rw [evParts_agree h]
  case bsl sz xs => rw [evs_agree h]
  case ld k a => rw [ev_agree h]
  case sto n a x => rw [ev_agree (h.sub (us := a.tmps) (by simp; grind)), ev_agree (h.sub (us := x.tmps) (by simp; grind))]
  case nck x => rw [ev_agree h]
  case bin op a x => rw [ev_agree (h.sub (us := a.tmps) (by simp; grind)), ev_agree (h.sub (us := x.tmps) (by simp; grind))]
  case eq kd ng a x => rw [ev_agree (h.sub (us := a.tmps) (by simp; grind)), ev_agree (h.sub (us := x.tmps) (by simp; grind))]
  case un op x => rw [ev_agree h]
  case fa op x => rw [ev_agree h]
  case ia sz a x => rw [ev_agree (h.sub (us := a.tmps) (by simp; grind)), ev_agree (h.sub (us := x.tmps) (by simp; grind))]
  case idx a x => rw [ev_agree (h.sub (us := a.tmps) (by simp; grind)), ev_agree (h.sub (us := x.tmps) (by simp; grind))]
  case fld o k x => rw [ev_agree h]
  case slc s sz x lo hi => rw [ev_agree (h.sub (us := x.tmps) (by simp; grind)), evInt_agree (h.sub (us := lo.toList.flatMap Opd.tmps) (by simp; grind)), evInt_agree (h.sub (us := hi.toList.flatMap Opd.tmps) (by simp; grind))]
  case ext i x => rw [ev_agree h]
  case len s x => rw [ev_agree h]
  case app sz b a x => rw [ev_agree (h.sub (us := a.tmps) (by simp; grind)), ev_agree (h.sub (us := x.tmps) (by simp; grind))]
  case mkf k fs cs => rw [evs_agree (h.sub (us := fs.flatMap Opd.tmps) (by simp; grind)), evs_agree (h.sub (us := cs.flatMap Opd.tmps) (by simp; grind))]
  case conv k x => rw [ev_agree h]
  case ex k => exact evX_agree h

/-- Whether an operation may change the store. -/
def K.writes : K → Bool
  | .new _ | .box _ | .sto .. | .app .. | .call .. => true
  | .ex k => k.writes
  | _ => false

theorem evX_same {e : Env} {S S' : St} {k : X} {r : V} (hw : k.writes = false) (h : evX e S k = some (r, S')) : S' = S := by
  cases k <;> simp only [X.writes, Bool.true_eq_false] at hw <;> simp only [evX] at h
  all_goals first
    | (simp only [Option.bind_eq_some_iff] at h; obtain ⟨_, _, h⟩ := h)
    | skip
  all_goals (repeat' split at h)
  all_goals first
    | (cases h; done)
    | (simp only [Option.map_eq_some_iff, Prod.mk.injEq] at h; obtain ⟨_, _, _, h⟩ := h; exact h.symm)
    | (simp only [Option.some.injEq, Prod.mk.injEq] at h; exact h.2.symm)

theorem evK_same {e : Env} {S S' : St} {k : K} {r : V} (hw : k.writes = false) (h : evK e S k = some (r, S')) : S' = S := by
  cases k <;> simp only [K.writes, Bool.true_eq_false] at hw <;> simp only [evK] at h
  case ex k => exact evX_same hw h
  all_goals first
    | (simp only [Option.map_eq_some_iff, Prod.mk.injEq] at h; obtain ⟨_, _, _, h⟩ := h; exact h.symm)
    | skip
  all_goals first
    | (simp only [Option.bind_eq_some_iff] at h; obtain ⟨_, _, h⟩ := h)
    | skip
  all_goals (repeat' split at h)
  all_goals first
    | (cases h; done)
    | (simp only [Option.map_eq_some_iff, Prod.mk.injEq] at h; obtain ⟨_, _, _, h⟩ := h; exact h.symm)
    | (simp only [Option.some.injEq, Prod.mk.injEq] at h; exact h.2.symm)

/-- Whether an operation looks at the store. -/
def K.reads : K → Bool
  | .new _ | .box _ | .sto .. | .app .. | .call .. | .ld .. | .ia .. | .slc .. => true
  | .ex k => k.reads
  | _ => false

theorem evX_pure {e : Env} {S T : St} {k : X} (hr : k.reads = false) : evX e T k = (evX e S k).map fun p => (p.1, T) := by
  cases k <;> simp only [X.reads, Bool.true_eq_false] at hr <;> simp only [evX]
  case wrap n x =>
    cases x.ev e with
    | none => rfl
    | some v => simp only [Option.bind_some]; split <;> rfl
  all_goals ((repeat' split) <;> first | rfl | (simp only [Option.map_map]; rfl) | simp)

theorem evK_pure {e : Env} {S T : St} {k : K} (hr : k.reads = false) : evK e T k = (evK e S k).map fun p => (p.1, T) := by
  cases k <;> simp only [K.reads, Bool.true_eq_false] at hr <;> simp only [evK]
  case ex k => exact evX_pure hr
  all_goals first
    | rfl
    | (simp only [Option.map_map]; rfl)
    | (simp only [Option.map_bind]; congr 1; funext v; simp only [Function.comp]; first | rfl | (simp only [Option.map_map]; rfl) | (repeat' split) <;> first | rfl | (simp only [Option.map_map]; rfl))
    | ((repeat' split) <;> first | rfl | (simp only [Option.map_map]; rfl) | simp)
end Go.Proofs.YtbifpocccfkhhaaGreatDoor
