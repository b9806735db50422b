/- Regions whose order is open: one order tells all of them. -/
import Derived.Test.YtbifpocccfkhhaaGreatDoorLad
namespace Go.Proofs.YtbifpocccfkhhaaGreatDoor
open Go

/-- An operation of such a region: whether it changes the store, the place of its allocation, what comes before it in every order, how many changes may have been done when it comes up, and whether that is to be looked at. -/
structure D where
  o : O'
  w : Bool
  slot : Option Nat
  chk : Bool
  anc : List Nat
  lo : Nat
  hi : Nat
  deriving Inhabited

def O'.tmps (o : O') : List Nat := o.k.tmps ++ (match o.g with | some (t, _) => [t] | none => [])

def wix (ds : List D) : List Nat := (List.range ds.length).filter fun i => (ds[i]?.map D.w).getD false

def pos (ds : List D) (j : Nat) : Nat := (ds.take j).countP fun d => d.w

def dstAt (ds : List D) (i : Nat) : Option Nat := ds[i]?.bind fun d => d.o.dst
def ancAt (ds : List D) (i : Nat) : List Nat := (ds[i]?.map D.anc).getD []
def slotAt (ds : List D) (i : Nat) : Option Nat := ds[i]?.bind fun d => d.slot

def okD (ds : List D) (aft : List Nat) (j : Nat) (d : D) : Bool :=
  (aft.all fun i => decide (i < j)) &&
  (d.anc.all fun i => aft.contains i || aft.any fun s => (ancAt ds s).contains i) &&
  (d.o.tmps.all fun t => (List.range ds.length).all fun i => !(dstAt ds i == some t) || (d.anc.contains i && decide (i < j)) || (!d.chk && decide (j ≤ i) && (i == j || (ancAt ds i).contains j))) &&
  (match d.o.dst with | none => true | some t => (List.range ds.length).all fun i => i == j || !(dstAt ds i == some t)) &&
  ((List.range d.lo).all fun p => match (wix ds)[p]? with | some i => d.anc.contains i | none => false) &&
  ((List.range (wix ds).length).all fun p => decide (p < d.hi) || (match (wix ds)[p]? with | some i => i == j || (ancAt ds i).contains j | none => true)) &&
  (if d.w then (wix ds)[pos ds j]? == some j && d.lo == pos ds j else true) &&
  (match d.slot with
    | some s => !d.w && d.chk && (match d.o.k with | .new _ => true | _ => false) && (List.range ds.length).all fun i => i == j || !(slotAt ds i == some s)
    | none => d.w || !d.o.k.writes) &&
  (d.w || d.chk || (d.lo == pos ds j && d.hi == pos ds j) || (d.slot.isNone && !d.o.k.reads))

/-- What an operation yields, and the store behind it. -/
def Step (P : Program) (base : Nat) (e : Env) (S : St) (d : D) (v : V) (S' : St) : Prop :=
  (wantedV e d.o.g = some false ∧ v = .tup [] ∧ S' = S) ∨
  (wantedV e d.o.g = some true ∧ ((∃ s, d.slot = some s ∧ v = .ptr (base + s) 0 0 1 ∧ S' = S) ∨
    (d.slot = none ∧ ((∃ f args k fs cs vs, d.o.k = .call f args ∧ f.ev e = some (.fn (.func k) fs cs) ∧ evs e args = some vs ∧ Spec P k (fs ++ vs ++ cs) S (fun r T => r = v ∧ T = S')) ∨ evK e S d.o.k = some (v, S')))))

def dwp (P : Program) (base : Nat) : List D → (Env → List St → Prop) → Env → St → List St → Prop
  | [], K, e, _, H => K e H
  | d :: ds, K, e, S, H => match wantedV e d.o.g with
    | none => False
    | some false => dwp P base ds K (e.put d.o.dst (.tup [])) S (if d.w then H ++ [S] else H)
    | some true => match d.slot with
      | some s => dwp P base ds K (e.put d.o.dst (.ptr (base + s) 0 0 1)) S (if d.w then H ++ [S] else H)
      | none => match d.o.k with
        | .call f args => match f.ev e, evs e args with
          | some (.fn (.func k) fs cs), some vs => ∃ v S', Spec P k (fs ++ vs ++ cs) S (fun r T => r = v ∧ T = S') ∧ dwp P base ds K (e.put d.o.dst v) S' (if d.w then H ++ [S'] else H)
          | _, _ => False
        | k => match evK e S k with
          | some (r, S') => dwp P base ds K (e.put d.o.dst r) S' (if d.w then H ++ [S'] else H)
          | none => False

def Tr (P : Program) (base : Nat) : List D → Env → St → List St → Env → List St → Prop
  | [], e, _, H, ef, Hf => ef = e ∧ Hf = H
  | d :: ds, e, S, H, ef, Hf => ∃ v S', Step P base e S d v S' ∧ Tr P base ds (e.put d.o.dst v) S' (if d.w then H ++ [S'] else H) ef Hf

theorem dwp_tr {P : Program} {base : Nat} {K : Env → List St → Prop} : ∀ (ds : List D) (e : Env) (S : St) (H : List St), dwp P base ds K e S H → ∃ ef Hf, K ef Hf ∧ Tr P base ds e S H ef Hf
  | [], e, S, H, h => ⟨e, H, h, rfl, rfl⟩
  | d :: ds, e, S, H, h => by
    simp only [dwp] at h
    split at h
    · exact h.elim
    · rename_i hw
      obtain ⟨ef, Hf, h1, h2⟩ := dwp_tr ds _ _ _ h
      exact ⟨ef, Hf, h1, .tup [], S, .inl ⟨hw, rfl, rfl⟩, h2⟩
    · rename_i hw
      split at h
      · rename_i s hs
        obtain ⟨ef, Hf, h1, h2⟩ := dwp_tr ds _ _ _ h
        exact ⟨ef, Hf, h1, _, S, .inr ⟨hw, .inl ⟨s, hs, rfl, rfl⟩⟩, h2⟩
      · rename_i hs
        split at h
        · rename_i f args hk
          split at h <;> try exact h.elim
          rename_i k fs cs vs hf hvs
          obtain ⟨v, S', hsp, h⟩ := h
          obtain ⟨ef, Hf, h1, h2⟩ := dwp_tr ds _ _ _ h
          exact ⟨ef, Hf, h1, v, S', .inr ⟨hw, .inr ⟨hs, .inl ⟨f, args, k, fs, cs, vs, hk, hf, hvs, hsp⟩⟩⟩, h2⟩
        · split at h <;> try exact h.elim
          rename_i r S' hev
          obtain ⟨ef, Hf, h1, h2⟩ := dwp_tr ds _ _ _ h
          exact ⟨ef, Hf, h1, r, S', .inr ⟨hw, .inr ⟨hs, .inr hev⟩⟩, h2⟩

theorem get_put {e : Env} {d : Option Nat} {v : V} {t : Nat} : (e.put d v).get t = if d = some t then some v else e.get t := by
  cases d with
  | none => simp [Env.put]
  | some d => simp [Env.put, Env.get]

theorem Tr_get {P : Program} {base : Nat} {t : Nat} : ∀ (ds : List D) (e : Env) (S : St) (H : List St) (ef : Env) (Hf : List St), Tr P base ds e S H ef Hf → (∀ d, d ∈ ds → d.o.dst ≠ some t) → ef.get t = e.get t
  | [], e, S, H, ef, Hf, h, _ => by rw [h.1]
  | d :: ds, e, S, H, ef, Hf, ⟨v, S', h1, h2⟩, hd => by
    rw [Tr_get ds _ _ _ _ _ h2 fun d' hd' => hd d' (by simp [hd']), get_put, if_neg (hd d (by simp))]

theorem Tr_pre {P : Program} {base : Nat} : ∀ (ds : List D) (e : Env) (S : St) (H : List St) (ef : Env) (Hf : List St), Tr P base ds e S H ef Hf → ∃ T, Hf = H ++ T ∧ T.length = ds.countP fun d => d.w
  | [], e, S, H, ef, Hf, h => ⟨[], by simp [h.2], rfl⟩
  | d :: ds, e, S, H, ef, Hf, ⟨v, S', h1, h2⟩ => by
    obtain ⟨T, ht, hl⟩ := Tr_pre ds _ _ _ _ _ h2
    cases hw : d.w
    · rw [hw] at ht
      simp only [Bool.false_eq_true, if_false] at ht
      exact ⟨T, ht, by rw [hl]; simp [List.countP_cons, hw]⟩
    · rw [hw] at ht
      simp only [if_true] at ht
      exact ⟨S' :: T, by rw [ht]; simp, by simp [List.countP_cons, hw, hl]⟩

theorem wantedV_agree {e e' : Env} {o : O'} (h : Agree o.tmps e e') : wantedV e' o.g = wantedV e o.g := by
  cases hg : o.g with
  | none => rfl
  | some p =>
    obtain ⟨t, w⟩ := p
    simp only [wantedV]
    rw [h t (by simp [O'.tmps, hg])]

theorem Step.agree {P : Program} {base : Nat} {e e' : Env} {S S' : St} {d : D} {v : V} (h : Step P base e S d v S') (ha : Agree d.o.tmps e e') : Step P base e' S d v S' := by
  have hw := wantedV_agree ha
  have hk : Agree d.o.k.tmps e e' := ha.sub fun t ht => by simp [O'.tmps, ht]
  rcases h with ⟨h1, h2, h3⟩ | ⟨h1, h2⟩
  · exact .inl ⟨by rw [hw]; exact h1, h2, h3⟩
  · refine .inr ⟨by rw [hw]; exact h1, ?_⟩
    rcases h2 with h2 | ⟨hs, h2⟩
    · exact .inl h2
    · refine .inr ⟨hs, ?_⟩
      rcases h2 with ⟨f, args, k, fs, cs, vs, h3, h4, h5, h6⟩ | h2
      · rw [h3] at hk
        simp only [K.tmps] at hk
        exact .inl ⟨f, args, k, fs, cs, vs, h3, by rw [ev_agree (hk.sub (us := f.tmps) (by simp; grind))]; exact h4, by rw [evs_agree (hk.sub (us := args.flatMap Opd.tmps) (by simp; grind))]; exact h5, h6⟩
      · exact .inr (by rw [evK_agree hk]; exact h2)

structure Ok (ds : List D) (aft : Nat → List Nat) (j : Nat) (d : D) : Prop where
  back : ∀ i, i ∈ aft j → i < j
  anc : ∀ i, i ∈ d.anc → i ∈ aft j ∨ ∃ s, s ∈ aft j ∧ i ∈ ancAt ds s
  tmps : ∀ t, t ∈ d.o.tmps → ∀ i, dstAt ds i = some t → (i ∈ d.anc ∧ i < j) ∨ (d.chk = false ∧ j ≤ i ∧ (i = j ∨ j ∈ ancAt ds i))
  dst : ∀ t, d.o.dst = some t → ∀ i, i ≠ j → dstAt ds i ≠ some t
  lo : ∀ p, p < d.lo → ∃ i, (wix ds)[p]? = some i ∧ i ∈ d.anc
  hi : ∀ p i, d.hi ≤ p → (wix ds)[p]? = some i → i = j ∨ j ∈ ancAt ds i
  wr : d.w = true → (wix ds)[pos ds j]? = some j ∧ d.lo = pos ds j
  slot : ∀ s, d.slot = some s → d.w = false ∧ d.chk = true ∧ (∃ z, d.o.k = .new z) ∧ ∀ i, i ≠ j → slotAt ds i ≠ some s
  noslot : d.slot = none → d.w = true ∨ d.o.k.writes = false
  nochk : d.w = true ∨ d.chk = true ∨ (d.lo = pos ds j ∧ d.hi = pos ds j) ∨ (d.slot = none ∧ d.o.k.reads = false)

theorem dstAt_lt {ds : List D} {i t : Nat} (h : dstAt ds i = some t) : i < ds.length := by
  unfold dstAt at h
  cases hd : ds[i]? with
  | none => rw [hd] at h; cases h
  | some d => exact (List.getElem?_eq_some_iff.1 hd).1
theorem slotAt_lt {ds : List D} {i t : Nat} (h : slotAt ds i = some t) : i < ds.length := by
  unfold slotAt at h
  cases hd : ds[i]? with
  | none => rw [hd] at h; cases h
  | some d => exact (List.getElem?_eq_some_iff.1 hd).1

theorem okD_spec {ds : List D} {aft : Nat → List Nat} {j : Nat} {d : D} (h : okD ds (aft j) j d = true) : Ok ds aft j d := by
  unfold okD at h
  simp only [Bool.and_eq_true] at h
  obtain ⟨⟨⟨⟨⟨⟨⟨⟨h1, h2⟩, h3⟩, h4⟩, h5⟩, h6⟩, h7⟩, h8⟩, h9⟩ := h
  simp only [List.all_eq_true, decide_eq_true_eq, List.mem_range, Bool.or_eq_true, List.contains_iff_mem, List.any_eq_true, Bool.and_eq_true, Bool.not_eq_true', beq_eq_false_iff_ne, ne_eq] at h1 h2 h3 h5 h6
  refine ⟨h1, h2, fun t ht i hi => ?_, fun t ht i hi hne => ?_, fun p hp => ?_, fun p i hp hi => ?_, fun hw => ?_, fun s hs => ?_, fun hs => ?_, ?_⟩
  · rcases h3 t ht i (dstAt_lt hi) with (h | h) | ⟨⟨h, h'⟩, h''⟩
    · exact absurd hi h
    · exact .inl h
    · exact .inr ⟨h, h', by simpa using h''⟩
  · rw [ht] at h4
    simp only [List.all_eq_true, List.mem_range, Bool.or_eq_true, beq_iff_eq, Bool.not_eq_true', beq_eq_false_iff_ne, ne_eq] at h4
    exact (h4 i (dstAt_lt hne)).elim (fun h => hi h) (fun h => h hne)
  · have := h5 p hp
    split at this
    · rename_i i hi; exact ⟨i, hi, by simpa using this⟩
    · cases this
  · have hlt := (List.getElem?_eq_some_iff.1 hi).1
    have := (h6 p hlt).resolve_left (by omega)
    rw [hi] at this
    simpa using this
  · rw [if_pos hw] at h7
    simp only [Bool.and_eq_true, beq_iff_eq] at h7
    exact h7
  · rw [hs] at h8
    simp only [Bool.and_eq_true, List.all_eq_true, List.mem_range, Bool.or_eq_true, beq_iff_eq, Bool.not_eq_true', beq_eq_false_iff_ne, ne_eq] at h8
    obtain ⟨⟨⟨a, b⟩, c⟩, e⟩ := h8
    refine ⟨by simpa using a, b, ?_, fun i hi hne => (e i (slotAt_lt hne)).elim (fun h => hi h) (fun h => h hne)⟩
    split at c
    · rename_i z hz; exact ⟨z, hz⟩
    · cases c
  · rw [hs] at h8
    simpa using h8
  · simp only [Bool.or_eq_true, Bool.and_eq_true, beq_iff_eq] at h9
    rcases h9 with ((h9 | h9) | h9) | h9
    · exact .inl h9
    · exact .inr (.inl h9)
    · exact .inr (.inr (.inl h9))
    · exact .inr (.inr (.inr (by simpa using h9)))

/-- What the one order has shown. -/
theorem Tr_facts {P : Program} {base : Nat} {all : List D} {aft : Nat → List Nat} {e0 : Env} (ok : ∀ j d, all[j]? = some d → Ok all aft j d) : ∀ (ds : List D) (k : Nat) (e : Env) (S : St) (H : List St) (ef : Env) (Hf : List St), all.drop k = ds →
    H.length = pos all k + 1 → H[pos all k]? = some S → Tr P base ds e S H ef Hf → (∀ t, (∀ i, i < k → dstAt all i ≠ some t) → e.get t = e0.get t) → ∀ j d, k ≤ j → all[j]? = some d → ∃ T v T' ej, Hf[pos all j]? = some T ∧ Step P base ej T d v T' ∧ (∀ t, d.o.dst = some t → ef.get t = some v) ∧ (d.w = true → Hf[pos all j + 1]? = some T') ∧
      (∀ t, t ∈ d.o.tmps → (∀ i, dstAt all i = some t → i < j) → ej.get t = ef.get t) ∧ (∀ t i, j ≤ i → dstAt all i = some t → ej.get t = e0.get t)
  | [], k, e, S, H, ef, Hf, hd, hl, hS, h, he0, j, d, hj, hjd => by
    have := (List.getElem?_eq_some_iff.1 hjd).1
    have h0 : (all.drop k).length = 0 := by rw [hd]; rfl
    simp at h0
    omega
  | d0 :: ds, k, e, S, H, ef, Hf, hd, hl, hS, ⟨v, S', h1, h2⟩, he0, j, d, hj, hjd => by
    have hk : all[k]? = some d0 := by
      have : (all.drop k)[0]? = some d0 := by rw [hd]; rfl
      simpa using this
    have hk1 : all.drop (k + 1) = ds := by
      rw [← List.drop_drop, hd]; rfl
    have hdk := hd
    have hpos : pos all (k + 1) = pos all k + if d0.w = true then 1 else 0 := by
      unfold pos
      rw [List.take_add_one, hk]
      simp [List.countP_append, List.countP_cons]
    have hok := ok k d0 hk
    have hin : ∀ d', d' ∈ ds → ∃ i, k < i ∧ all[i]? = some d' := fun d' hd' => by
      obtain ⟨i, hi⟩ := List.getElem?_of_mem hd'
      rw [← hk1, List.getElem?_drop] at hi
      exact ⟨k + 1 + i, by omega, hi⟩
    -- what comes later does not touch what this one reads, or yields
    have hag : ∀ t, t ∈ d0.o.tmps → (∀ i, dstAt all i = some t → i < k) → e.get t = ef.get t := fun t ht hlt => by
      refine (Tr_get (P := P) (base := base) (t := t) (d0 :: ds) e S H ef Hf ⟨v, S', h1, h2⟩ fun d' hd' hdd => ?_).symm
      have : ∃ i, k ≤ i ∧ all[i]? = some d' := by
        rcases List.mem_cons.1 hd' with rfl | hd'
        · exact ⟨k, Nat.le_refl _, hk⟩
        · obtain ⟨i, hi, hi'⟩ := hin d' hd'; exact ⟨i, by omega, hi'⟩
      obtain ⟨i, hi, hi'⟩ := this
      have := hlt i (by simp [dstAt, hi', hdd])
      omega
    have hold : ∀ t i, k ≤ i → dstAt all i = some t → e.get t = e0.get t := fun t i hi hit => he0 t fun i' hi' hit' => by
      obtain ⟨d', hd', hdd⟩ : ∃ d', all[i]? = some d' ∧ d'.o.dst = some t := by
        unfold dstAt at hit
        cases hx : all[i]? with
        | none => rw [hx] at hit; cases hit
        | some d' => rw [hx] at hit; exact ⟨d', rfl, hit⟩
      exact (ok i d' hd').dst t hdd i' (by omega) hit'
    have hdst : ∀ t, d0.o.dst = some t → ef.get t = some v := fun t ht => by
      rw [Tr_get ds _ _ _ _ _ h2 fun d' hd' hdd => by
        obtain ⟨i, hi, hi'⟩ := hin d' hd'
        exact hok.dst t ht i (by omega) (by simp [dstAt, hi', hdd]), get_put, if_pos ht]
    obtain ⟨T0, hT0, _⟩ := Tr_pre ds _ _ _ _ _ h2
    rcases Nat.lt_or_ge k j with hlt | hge
    · refine Tr_facts ok ds (k + 1) _ S' _ ef Hf hk1 ?_ ?_ h2 ?_ j d hlt hjd
      · cases hw : d0.w <;> simp [hw] at hpos ⊢ <;> omega
      rotate_left
      · intro t ht
        rw [get_put, if_neg (fun hdd => ht k (by omega) (by simp [dstAt, hk, hdd]))]
        exact he0 t fun i hi => ht i (by omega)
      · cases hw : d0.w
        · simp only [hw, Bool.false_eq_true, if_false] at hpos ⊢
          have : S' = S := by
            rcases h1 with ⟨_, _, h⟩ | ⟨_, h⟩
            · exact h
            · rcases h with ⟨s, _, _, h⟩ | ⟨hs, h⟩
              · exact h
              · have hnw := (hok.noslot hs).resolve_left (by simp [hw])
                rcases h with ⟨f, args, kf, fs, cs, vs, hkk, _⟩ | h
                · rw [hkk] at hnw; simp [K.writes] at hnw
                · exact evK_same hnw h
          rw [this, hpos]; exact hS
        · simp only [hw, if_true] at hpos ⊢
          rw [hpos, List.getElem?_append_right (by omega), hl]; simp
    · have hjk : j = k := by omega
      subst hjk
      rw [hk] at hjd; cases hjd
      refine ⟨S, v, S', e, ?_, h1, hdst, fun hw => ?_, hag, hold⟩
      · rw [hT0]
        have : pos all j < H.length := by omega
        split
        · rw [List.append_assoc, List.getElem?_append_left this]; exact hS
        · rw [List.getElem?_append_left this]; exact hS
      · rw [hT0, if_pos hw, List.append_assoc, List.getElem?_append_right (by omega), hl]; simp
end Go.Proofs.YtbifpocccfkhhaaGreatDoor
/- Regions whose order is open: soundness. -/
namespace Go.Proofs.YtbifpocccfkhhaaGreatDoor
open Go

/-- An operation that floats: it yields the same wherever it may come up. -/
def dchk (base : Nat) (ef : Env) (H : List St) (d : D) : Prop :=
  ∀ q, d.lo ≤ q → q ≤ d.hi → ∀ T, H[q]? = some T → match d.slot with
    | some s => match d.o.k with
      | .new z => T[base + s]? = some (.arr [z] z.size 1) ∧ 0 < z.size ∧ (z.cells.all V.flat) = true
      | _ => False
    | none => ∃ v, evK ef T d.o.k = some (v, T) ∧ ∀ t, d.o.dst = some t → ef.get t = some v

def dchks (base : Nat) (ef : Env) (H : List St) (ds : List D) : Prop := ∀ d, d ∈ ds → d.chk = true → d.w = false → wantedV ef d.o.g = some true → dchk base ef H d

def compD (P : Program) (N : Nat) (ops : Array Oper) (ds : List D) : Bool :=
  decide (ds.length = ops.size) && (List.range ds.length).all fun j => match ds[j]?, ops[j]? with
    | some d, some o => okD ds ((o.after.toList.filter fun e => Region.binds .any e).map fun e => e.on) j d
    | _, _ => false

def aftOf (ops : Array Oper) (j : Nat) : List Nat := match ops[j]? with
  | some o => (o.after.toList.filter fun e => Region.binds .any e).map fun e => e.on
  | none => []

theorem compD_spec {P : Program} {N : Nat} {ops : Array Oper} {ds : List D} (h : compD P N ops ds = true) : ds.length = ops.size ∧ ∀ j d, ds[j]? = some d → Ok ds (aftOf ops) j d := by
  unfold compD at h
  simp only [Bool.and_eq_true, decide_eq_true_eq, List.all_eq_true, List.mem_range] at h
  refine ⟨h.1, fun j d hj => ?_⟩
  have hlt := (List.getElem?_eq_some_iff.1 hj).1
  have := h.2 j hlt
  rw [hj] at this
  cases ho : ops[j]? with
  | none => rw [ho] at this; simp at this
  | some o =>
    rw [ho] at this
    refine okD_spec (aft := aftOf ops) ?_
    simpa [aftOf, ho] using this

/-- What holds between two operations. -/
structure Inv (ds : List D) (N n0 m0 base : Nat) (e0 ef : Env) (Hf : List St) (E0 : En) (S0 : St) (w0 : World) (listed : Array Bool) (q : Nat) (E : En) (S : St) (a : Act) (w : World) : Prop where
  size : listed.size = ds.length
  closed : ∀ j d, ds[j]? = some d → listed.getD j false = true → ∀ i, i ∈ d.anc → listed.getD i false = true
  num : ∀ p i, (wix ds)[p]? = some i → (listed.getD i false = true ↔ p < q)
  qle : q ≤ (wix ds).length
  st : Hf[q]? = some S
  tmps : ∀ t v, ef.get t = some v → (∀ i, dstAt ds i = some t → listed.getD i false = true) → ∃ u, a.tmps[t]? = some u ∧ VR E v u
  tmps0 : ∀ t v, e0.get t = some v → (∀ i, dstAt ds i = some t → listed.getD i false = false) → ∃ u, a.tmps[t]? = some u ∧ VR E v u
  slots : ∀ i s, slotAt ds i = some s → listed.getD i true = false → ∀ st, E.ρ (base + s) st = none
  N : a.tmps.size = N
  defers : Marks m0 E S w a.defers
  sr : SR E S w
  len : base ≤ S.length
  room : ∀ i s, slotAt ds i = some s → base + s < S.length
  ext : Ext n0 E0 S0 w0 E S w

theorem getD_true {l : Array Bool} {i : Nat} : l.getD i true = false ↔ ∃ h : i < l.size, l[i] = false := by
  simp only [Array.getD]
  split
  · rename_i h; simp [h]
  · rename_i h; simp [h]
theorem getD_false {l : Array Bool} {i : Nat} : l.getD i false = true ↔ ∃ h : i < l.size, l[i] = true := by
  simp only [Array.getD]
  split
  · rename_i h; simp [h]
  · rename_i h; simp [h]

theorem set_getD {l : Array Bool} {j i : Nat} (hj : j < l.size) : (l.setIfInBounds j true).getD i false = true ↔ i = j ∨ l.getD i false = true := by
  by_cases h : j = i
  · subst h; simp [hj]
  · rw [getD_set_ne false h]
    exact ⟨.inr, fun h' => h'.resolve_left (fun e => h e.symm)⟩

theorem count_set {l : Array Bool} {j : Nat} (hj : l.getD j true = false) : (l.setIfInBounds j true).toList.count false + 1 = l.toList.count false := by
  obtain ⟨h, hv⟩ := getD_true.1 hj
  have : (l.setIfInBounds j true).toList = l.toList.set j true := by simp
  have hlt : j < l.toList.length := by simpa using h
  have h1 : l.toList[j] = false := by simpa using hv
  have h2 : 0 < l.toList.count false := List.count_pos_iff.2 (by rw [← h1]; exact List.getElem_mem _)
  rw [this, List.count_set hlt, h1]
  rw [show (if (true == false) = true then 1 else 0) = 0 from rfl, show (if (false == false) = true then 1 else 0) = 1 from rfl]
  omega

theorem count_all {l : Array Bool} (h : l.toList.count false = 0) {i : Nat} (hi : i < l.size) : l.getD i false = true := by
  rw [List.count_eq_zero] at h
  refine getD_false.2 ⟨hi, ?_⟩
  cases hb : l[i] with
  | true => rfl
  | false => exact absurd (by rw [← hb]; simp) h

theorem wix_mem {ds : List D} {p i : Nat} (h : (wix ds)[p]? = some i) : ∃ d, ds[i]? = some d ∧ d.w = true := by
  have := List.mem_of_getElem? h
  unfold wix at this
  rw [List.mem_filter] at this
  cases hd : ds[i]? with
  | none => rw [hd] at this; simp at this
  | some d => rw [hd] at this; exact ⟨d, rfl, by simpa using this.2⟩

theorem wix_inj {ds : List D} {p p' i : Nat} (h : (wix ds)[p]? = some i) (h' : (wix ds)[p']? = some i) : p = p' := by
  have hn : (wix ds).Nodup := List.Pairwise.filter _ List.nodup_range
  exact (List.getElem?_inj (List.getElem?_eq_some_iff.1 h).1 hn).1 (h.trans h'.symm)

section
variable {P : Program} {N n0 m0 : Nat} {ro : Option Nat} {n : Nat} {ops : Array Oper} {Q : Post} {ds : List D} {base : Nat} {e0 ef : Env} {Hf : List St} {E0 : En} {S0 : St} {w0 : World}

/-- What one order has shown of an operation. -/
def Fact (P : Program) (ds : List D) (base : Nat) (e0 ef : Env) (Hf : List St) (j : Nat) (d : D) : Prop :=
  ∃ T v T' ej, Hf[pos ds j]? = some T ∧ Step P base ej T d v T' ∧ (∀ t, d.o.dst = some t → ef.get t = some v) ∧ (d.w = true → Hf[pos ds j + 1]? = some T') ∧
    (∀ t, t ∈ d.o.tmps → (∀ i, dstAt ds i = some t → i < j) → ej.get t = ef.get t) ∧ (∀ t i, j ≤ i → dstAt ds i = some t → ej.get t = e0.get t)

/-- Between which changes an operation comes up. -/
theorem Inv.range {listed : Array Bool} {q : Nat} {E : En} {S : St} {a : Act} {w : World} (inv : Inv ds N n0 m0 base e0 ef Hf E0 S0 w0 listed q E S a w) (ok : ∀ j d, ds[j]? = some d → Ok ds (aftOf ops) j d) {j : Nat} {d : D} (hj : ds[j]? = some d)
    (hun : listed.getD j true = false) (hanc : ∀ i, i ∈ d.anc → listed.getD i false = true) : d.lo ≤ q ∧ (d.w = false → q ≤ d.hi) ∧ (d.w = true → q = pos ds j) := by
  have hok := ok j d hj
  have hnl : listed.getD j false ≠ true := by
    intro h
    obtain ⟨h1, h2⟩ := getD_true.1 hun
    obtain ⟨h3, h4⟩ := getD_false.1 h
    rw [h2] at h4; cases h4
  have hlo : d.lo ≤ q := by
    rcases Nat.lt_or_ge q d.lo with h | h
    · obtain ⟨i, hi, hia⟩ := hok.lo q h
      have := (inv.num q i hi).1 (hanc i hia)
      omega
    · exact h
  refine ⟨hlo, fun hw => ?_, fun hw => ?_⟩
  · rcases Nat.lt_or_ge d.hi q with h | h
    · have hlt : d.hi < (wix ds).length := Nat.lt_of_lt_of_le h inv.qle
      have hi : (wix ds)[d.hi]? = some (wix ds)[d.hi] := by simp [hlt]
      rcases hok.hi d.hi _ (Nat.le_refl _) hi with he | he
      · obtain ⟨d', hd', hw'⟩ := wix_mem hi
        rw [he, hj] at hd'; cases hd'
        rw [hw] at hw'; cases hw'
      · have hl := (inv.num d.hi _ hi).2 h
        obtain ⟨d', hd', _⟩ := wix_mem hi
        exact absurd (inv.closed _ d' hd' hl j (by simpa [ancAt, hd'] using he)) hnl
    · exact h
  · obtain ⟨h1, h2⟩ := hok.wr hw
    have hnq : ¬ pos ds j < q := fun h => hnl ((inv.num _ j h1).2 h)
    omega

/-- One operation. -/
theorem draw_step {listed : Array Bool} {q : Nat} {E : En} {S : St} {a : Act} {w : World} {M : Act → World → Prop} (inv : Inv ds N n0 m0 base e0 ef Hf E0 S0 w0 listed q E S a w) (ok : ∀ j d, ds[j]? = some d → Ok ds (aftOf ops) j d) (hlen : ds.length = ops.size) (hn0 : n0 ≤ base)
    (hcomp : ∀ (j : Nat) (d : D) (o : Oper), ds[j]? = some d → ops[j]? = some o → compOper P N ops o = some d.o)
    (facts : ∀ (j : Nat) (d : D), ds[j]? = some d → Fact P ds base e0 ef Hf j d)
    (chks : dchks base ef Hf ds) {i : Nat} (hi : i ∈ Region.ready .any ops listed)
    (hK : ∀ a' w' E' q' S', Inv ds N n0 m0 base e0 ef Hf E0 S0 w0 (listed.setIfInBounds i true) q' E' S' a' w' → M a' w') :
    wpOpIn (fence ro) n P ops (Up N n0 m0 E0 S0 w0 Q) i M a w := by
  obtain ⟨hun, o, ho, hall⟩ := mem_ready.1 hi
  have hilt : i < ds.length := by rw [hlen]; exact (Array.getElem?_eq_some_iff.1 ho).1
  have hd : ds[i]? = some ds[i] := by simp [hilt]
  generalize hdd : ds[i] = d at hd
  have hok := ok i d hd
  obtain ⟨hdst, hdN, hk, hg⟩ := guard_sound (hcomp i d o hd ho)
  have hils : i < listed.size := by rw [inv.size]; exact hilt
  have haft : ∀ s, s ∈ aftOf ops i → listed.getD s false = true := fun s hs => by
    simp only [aftOf, ho, List.mem_map, List.mem_filter] at hs
    obtain ⟨e, ⟨he, hb⟩, rfl⟩ := hs
    exact hall e (by simpa using he) hb
  have hanc : ∀ s, s ∈ d.anc → listed.getD s false = true := fun s hs => by
    rcases hok.anc s hs with h | ⟨r, hr, hrs⟩
    · exact haft s h
    · have hrlt : r < ds.length := by have := hok.back r hr; omega
      have hrd : ds[r]? = some ds[r] := by simp [hrlt]
      exact inv.closed r _ hrd (haft r hr) s (by simpa [ancAt, hrd] using hrs)
  obtain ⟨rlo, rhi, rw'⟩ := inv.range ok hd hun hanc
  obtain ⟨T, v, T', ej, f1, f2, f3, f4, f5, f6⟩ := facts i d hd
  have hnl : ∀ s, (s = i ∨ i ∈ ancAt ds s) → listed.getD s false = false := fun s hs => by
    cases hl : listed.getD s false with
    | false => rfl
    | true =>
      exfalso
      have : listed.getD i false = true := by
        rcases hs with rfl | hs
        · exact hl
        · cases hds : ds[s]? with
          | none => simp [ancAt, hds] at hs
          | some d' => exact inv.closed s d' hds hl i (by simpa [ancAt, hds] using hs)
      obtain ⟨h1, h2⟩ := getD_true.1 hun
      obtain ⟨h3, h4⟩ := getD_false.1 this
      rw [h2] at h4; cases h4
  have htm : ∀ t, t ∈ d.o.tmps → ∀ v, ej.get t = some v → ∃ u, a.tmps[t]? = some u ∧ VR E v u := fun t ht v hv => by
    by_cases hlate : ∃ s, i ≤ s ∧ dstAt ds s = some t
    · obtain ⟨s, hs, hst⟩ := hlate
      rw [f6 t s hs hst] at hv
      refine inv.tmps0 t v hv fun s' hs' => ?_
      have hss : s' = s := by
        cases hds : ds[s]? with
        | none => simp [dstAt, hds] at hst
        | some d' =>
          have hdd : d'.o.dst = some t := by simpa [dstAt, hds] using hst
          by_cases h : s' = s
          · exact h
          · exact absurd hs' ((ok s d' hds).dst t hdd s' h)
      subst hss
      rcases hok.tmps t ht s' hst with ⟨_, h⟩ | ⟨_, _, h⟩
      · omega
      · exact hnl s' h
    · rw [f5 t ht fun s hs => by
        rcases Nat.lt_or_ge s i with h | h
        · exact h
        · exact absurd ⟨s, h, hs⟩ hlate] at hv
      refine inv.tmps t v hv fun s hs => ?_
      rcases hok.tmps t ht s hs with ⟨h, _⟩ | ⟨_, h, _⟩
      · exact hanc s h
      · exact absurd ⟨s, h, hs⟩ hlate
  have hstrict : d.chk = true → Agree d.o.tmps ef ej := fun hc t ht => f5 t ht fun s hs => by
    rcases hok.tmps t ht s hs with ⟨_, h⟩ | ⟨h, _⟩
    · exact h
    · rw [hc] at h; cases h
  -- the environment that this operation sees
  let e1 : Env := ej.keep d.o.tmps
  have hkeep : ∀ (ts : List Nat) t, t ∈ ts → (ej.keep ts).get t = ej.get t := by
    intro ts
    induction ts with
    | nil => intro t h; cases h
    | cons s ts ih =>
      intro t h
      simp only [Env.keep]
      by_cases hst : s = t
      · subst hst
        cases hs : ej.get s with
        | none =>
          simp only []
          cases hk : (ej.keep ts).get s with
          | none => rfl
          | some v => have := Env.get_keep hk; rw [hs] at this; cases this
        | some v => simp [Env.get]
      · have ht := (List.mem_cons.1 h).resolve_left (fun e => hst e.symm)
        cases hs : ej.get s with
        | none => exact ih t ht
        | some v => simp only [Env.get]; rw [if_neg hst]; exact ih t ht
  have hag : Agree d.o.tmps ej e1 := fun t ht => hkeep _ t ht
  have hT : Tmps E e1 a.tmps := fun t v hv => by
    by_cases ht : t ∈ d.o.tmps
    · rw [hag t ht] at hv; exact htm t ht v hv
    · exfalso
      have : ∀ (ts : List Nat), t ∉ ts → (ej.keep ts).get t = none := by
        intro ts
        induction ts with
        | nil => intro _; rfl
        | cons s ts ih =>
          intro h
          simp only [List.mem_cons, not_or] at h
          simp only [Env.keep]
          split
          · simp only [Env.get]; rw [if_neg (Ne.symm h.1)]; exact ih h.2
          · exact ih h.2
      have h2 := this d.o.tmps ht
      simp only [e1] at hv
      rw [h2] at hv; cases hv
  have hagk : Agree d.o.k.tmps ej e1 := hag.sub fun t ht => by simp [O'.tmps, ht]
  -- the state that this operation is to see
  have hpos : (d.w = true ∨ (d.lo = pos ds i ∧ d.hi = pos ds i)) → q = pos ds i ∧ S = T := fun h => by
    have hq : q = pos ds i := by
      cases hw : d.w with
      | true => exact rw' hw
      | false =>
        have h' := (h.resolve_left (by simp [hw]))
        have := rhi hw
        omega
    refine ⟨hq, ?_⟩
    have := inv.st
    rw [hq, f1] at this; cases this; rfl
  -- what holds behind it
  have finish : ∀ (E' : En) (S' : St) (u : Value) (w' : World), (∀ t, o.dst = some t → VR E' v u) → E.le E' → SR E' S' w' → Ext n0 E S w E' S' w' → S.length ≤ S'.length →
      (∀ i' s, slotAt ds i' = some s → i' ≠ i → (∀ st, E.ρ (base + s) st = none) → ∀ st, E'.ρ (base + s) st = none) →
      (d.w = true → S' = T') → (d.w = false → S' = S) → M (a.put o.dst u) w' := by
    intro E' S' u w' hv hle hsr hext hl hsl hw1 hw2
    refine hK _ _ E' (if d.w then q + 1 else q) S' ⟨by simp [inv.size], ?_, ?_, ?_, ?_, ?_, ?_, ?_, ?_, ?_, hsr, Nat.le_trans inv.len hl, fun i' s hs => Nat.lt_of_lt_of_le (inv.room i' s hs) hl, inv.ext.trans hext⟩
    · intro j d' hj hlj s hs
      rw [set_getD hils] at hlj ⊢
      rcases hlj with rfl | hlj
      · rw [hd] at hj; cases hj
        exact .inr (hanc s hs)
      · exact .inr (inv.closed j d' hj hlj s hs)
    · intro p i' hp
      rw [set_getD hils, inv.num p i' hp]
      cases hw : d.w with
      | true =>
        have hq := (hpos (.inl hw)).1
        simp only [if_true]
        constructor
        · rintro (rfl | h)
          · have := wix_inj hp (hok.wr hw).1; omega
          · omega
        · intro h
          rcases Nat.lt_or_ge p q with h' | h'
          · exact .inr h'
          · have : p = pos ds i := by omega
            subst this
            rw [(hok.wr hw).1] at hp; cases hp
            exact .inl rfl
      | false =>
        simp only [Bool.false_eq_true, if_false]
        refine ⟨fun h => h.resolve_left ?_, .inr⟩
        rintro rfl
        obtain ⟨d', hd', hw'⟩ := wix_mem hp
        rw [hd] at hd'; cases hd'
        rw [hw] at hw'; cases hw'
    · cases hw : d.w with
      | true =>
        have hq := (hpos (.inl hw)).1
        have := (List.getElem?_eq_some_iff.1 (hok.wr hw).1).1
        simp only [if_true]; omega
      | false => simpa using inv.qle
    · cases hw : d.w with
      | true =>
        have hq := (hpos (.inl hw)).1
        simp only [if_true]
        rw [hw1 hw, hq]; exact f4 hw
      | false =>
        simp only [Bool.false_eq_true, if_false]
        rw [hw2 hw]; exact inv.st
    · intro t vt hvt hall'
      by_cases ht : o.dst = some t
      · have h3 := f3 t (by rw [hdst]; exact ht)
        rw [hvt] at h3; cases h3
        refine ⟨u, ?_, hv t ht⟩
        have hlt : t < a.tmps.size := by rw [inv.N]; rw [ht] at hdN; simpa [dstOk] using hdN
        rw [ht]
        show (a.tmps.setIfInBounds t u)[t]? = some u
        simp [hlt]
      · obtain ⟨x, hx, hxr⟩ := inv.tmps t vt hvt fun s hs => by
          have := hall' s hs
          rw [set_getD hils] at this
          refine this.resolve_left ?_
          rintro rfl
          simp [dstAt, hd, hdst] at hs
          exact ht hs
        refine ⟨x, ?_, hxr.mono hle⟩
        cases hod : o.dst with
        | none => exact hx
        | some t' =>
          show (a.tmps.setIfInBounds t' u)[t]? = some x
          rw [Array.getElem?_setIfInBounds_ne (by rintro rfl; exact ht hod)]; exact hx
    · intro t vt hvt hall'
      have ht : o.dst ≠ some t := fun ht => by
        have := hall' i (by simp [dstAt, hd, hdst, ht])
        have h2 : (listed.setIfInBounds i true).getD i false = true := (set_getD hils).2 (.inl rfl)
        rw [this] at h2; cases h2
      obtain ⟨x, hx, hxr⟩ := inv.tmps0 t vt hvt fun s hs => by
        have := hall' s hs
        cases hl' : listed.getD s false with
        | false => rfl
        | true => rw [(set_getD hils).2 (.inr hl')] at this; cases this
      refine ⟨x, ?_, hxr.mono hle⟩
      cases hod : o.dst with
      | none => exact hx
      | some t' =>
        show (a.tmps.setIfInBounds t' u)[t]? = some x
        rw [Array.getElem?_setIfInBounds_ne (by rintro rfl; exact ht hod)]; exact hx
    · intro i' s hs hl' st
      by_cases hii : i' = i
      · subst hii
        rw [getD_true] at hl'
        obtain ⟨h1, h2⟩ := hl'
        simp at h2
      · exact hsl i' s hs hii (inv.slots i' s hs (by rw [getD_set_ne true (Ne.symm hii)] at hl'; exact hl')) st
    · cases o.dst <;> simp [Act.put, inv.N]
    · cases o.dst <;> exact Marks.step hext inv.defers
  have extOf : ∀ {E' : En} {S' : St} {w' : World}, Ext S.length E S w E' S' w' → Ext n0 E S w E' S' w' := fun h => h.less (Nat.le_trans hn0 inv.len)
  have slotsOf : ∀ {E' : En} {S' : St} {w' : World}, Ext S.length E S w E' S' w' → ∀ i' s, slotAt ds i' = some s → i' ≠ i → (∀ st, E.ρ (base + s) st = none) → ∀ st, E'.ρ (base + s) st = none := fun h i' s hs _ hno => h.no _ (inv.room i' s hs) hno
  unfold wpOpIn
  rw [ho]
  simp only []
  have hgd : ∀ b, wantedV ej d.o.g = some b → Region.wanted o (yielded ops a.tmps) = b := fun b hb =>
    hg E ej a b (fun t w hg v hv => htm t (by simp [O'.tmps, hg]) v hv) hb
  rcases f2 with ⟨g1, g2, g3⟩ | ⟨g1, g2⟩
  · -- not wanted
    rw [hgd false g1]
    simp only [Bool.false_eq_true, if_false]
    refine ⟨fun f hf => trivial, ?_⟩
    refine finish E S undef w (fun _ _ => by rw [g2]; exact .tup (by simp) (fun i v u h => by simp at h)) (En.le_refl E) inv.sr (Ext.refl _ _ _ _) (Nat.le_refl _) (fun _ _ _ _ h => h) (fun hw => ?_) (fun _ => rfl)
    rw [g3]; exact (hpos (.inl hw)).2
  · rw [hgd true g1]
    simp only [if_true]
    rcases g2 with ⟨s, hs, g3, g4⟩ | ⟨hs, g2⟩
    · -- an allocation in its place
      obtain ⟨k1, k2, ⟨z, hz⟩, k4⟩ := hok.slot s hs
      have hc := chks d (List.mem_of_getElem? hd) k2 k1 (by rw [← wantedV_agree (hstrict k2)]; exact g1) q rlo (rhi k1) S inv.st
      rw [hs, hz] at hc
      simp only at hc
      obtain ⟨c1, c2, c3⟩ := hc
      have hno := inv.slots i s (by simp [slotAt, hd, hs]) hun
      refine op_slot (by rw [hk, hz]) inv.sr c1 hno c2 c3 fun E' u w' b1 b2 b3 b4 b5 => ?_
      refine finish E' S u w' (fun _ _ => by rw [g3]; exact b1) b3 b2 (b4 n0 (by omega)) (Nat.le_refl _) (fun i' s' hs' hne hno' st => ?_) (fun hw => by rw [k1] at hw; cases hw) (fun _ => rfl)
      rw [b5 _ _ (fun he => ?_)]
      · exact hno' st
      · have : s' = s := by omega
        subst this
        exact k4 i' hne hs'
    · rcases g2 with ⟨f, args, kf, fs, cs, vs, g3, g4, g5, g6⟩ | g2
      · -- a call
        have hw : d.w = true := (hok.noslot hs).resolve_right (by rw [g3]; simp [K.writes])
        obtain ⟨hq, rfl⟩ := hpos (.inl hw)
        rw [g3] at hagk
        simp only [K.tmps] at hagk
        refine op_call (by rw [hk, g3]) hT inv.sr (by rw [ev_agree (hagk.sub (us := f.tmps) (by simp; grind))]; exact g4) (by rw [evs_agree (hagk.sub (us := args.flatMap Opd.tmps) (by simp; grind))]; exact g5) g6 fun r S' E' u w' hR hvr hsr hext hl => ?_
        obtain ⟨rfl, rfl⟩ := hR
        exact finish E' S' u w' (fun _ _ => hvr) (hext.le inv.sr) hsr (extOf hext) hl (slotsOf hext) (fun _ => rfl) (fun h => by rw [hw] at h; cases h)
      · by_cases hfl : d.w = true ∨ (d.lo = pos ds i ∧ d.hi = pos ds i)
        · obtain ⟨hq, rfl⟩ := hpos hfl
          refine op_plain hk hT inv.sr (by rw [evK_agree hagk]; exact g2) fun E' u w' hvr hsr hext hl => ?_
          refine finish E' T' u w' (fun _ _ => hvr) (hext.le inv.sr) hsr (extOf hext) hl (slotsOf hext) (fun _ => rfl) (fun h => ?_)
          exact evK_same ((hok.noslot hs).resolve_left (by simp [h])) g2
        · have hw : d.w = false := by
            cases h : d.w with
            | true => exact absurd (.inl h) hfl
            | false => rfl
          have fin : evK ej S d.o.k = some (v, S) → Oper.wpIn (fence ro) n P o a w M (Up N n0 m0 E0 S0 w0 Q) := fun c1 =>
            op_plain hk hT inv.sr (by rw [evK_agree hagk]; exact c1) fun E' u w' hvr hsr hext hl =>
              finish E' S u w' (fun _ _ => hvr) (hext.le inv.sr) hsr (extOf hext) hl (slotsOf hext) (fun h => by rw [hw] at h; cases h) (fun _ => rfl)
          have hnw := (hok.noslot hs).resolve_left (by simp [hw])
          rcases (hok.nochk.resolve_left (by simp [hw])) with hch | hch | ⟨_, hch⟩
          · have hc := chks d (List.mem_of_getElem? hd) hch hw (by rw [← wantedV_agree (hstrict hch)]; exact g1) q rlo (rhi hw) S inv.st
            rw [hs] at hc
            simp only at hc
            obtain ⟨v', c1, c2⟩ := hc
            refine op_plain hk hT inv.sr (by rw [evK_agree hagk, evK_agree ((hstrict hch).sub fun t ht => by simp [O'.tmps, ht])]; exact c1) fun E' u w' hvr hsr hext hl => ?_
            refine finish E' S u w' (fun t ht => ?_) (hext.le inv.sr) hsr (extOf hext) hl (slotsOf hext) (fun h => by rw [hw] at h; cases h) (fun _ => rfl)
            have := c2 t (by rw [hdst]; exact ht)
            rw [f3 t (by rw [hdst]; exact ht)] at this
            cases this
            exact hvr
          · exact absurd (.inr hch) hfl
          · have := evK_same hnw g2
            subst this
            exact fin (by rw [evK_pure (S := T') hch, g2]; rfl)

theorem draw_any (ok : ∀ j d, ds[j]? = some d → Ok ds (aftOf ops) j d) (hlen : ds.length = ops.size) (hn0 : n0 ≤ base)
    (hcomp : ∀ (j : Nat) (d : D) (o : Oper), ds[j]? = some d → ops[j]? = some o → compOper P N ops o = some d.o)
    (facts : ∀ (j : Nat) (d : D), ds[j]? = some d → Fact P ds base e0 ef Hf j d)
    (chks : dchks base ef Hf ds) (hQ : ∀ S, Hf.getLast? = some S → Q .normal ef S) (hHf : Hf.length = (wix ds).length + 1) :
    ∀ (fuel : Nat) (listed : Array Bool) (q : Nat) (E : En) (S : St) (a : Act) (w : World), Inv ds N n0 m0 base e0 ef Hf E0 S0 w0 listed q E S a w → listed.toList.count false ≤ fuel →
      wpAnyIn (fence ro) n P .any ops (Up N n0 m0 E0 S0 w0 Q) fuel listed a w := by
  have done : ∀ (listed : Array Bool) (q : Nat) (E : En) (S : St) (a : Act) (w : World), Inv ds N n0 m0 base e0 ef Hf E0 S0 w0 listed q E S a w → (∀ i, i < listed.size → listed.getD i false = true) → Up N n0 m0 E0 S0 w0 Q .normal a w := by
    intro listed q E S a w inv hall
    have hq : q = (wix ds).length := by
      rcases Nat.lt_or_ge q (wix ds).length with h | h
      · exfalso
        have hi : (wix ds)[q]? = some (wix ds)[q] := by simp [h]
        obtain ⟨d, hd, _⟩ := wix_mem hi
        have := (inv.num q _ hi).1 (hall _ (by rw [inv.size]; exact (List.getElem?_eq_some_iff.1 hd).1))
        omega
      · have := inv.qle; omega
    refine ⟨E, ef, S, ⟨fun t v hv => inv.tmps t v hv fun i hi => hall i (by rw [inv.size]; exact dstAt_lt hi), inv.N, inv.defers, Nat.le_trans hn0 inv.len, inv.sr⟩, inv.ext, hQ S ?_⟩
    rw [List.getLast?_eq_getElem?, hHf, Nat.add_sub_cancel, ← hq]; exact inv.st
  have none_ready : ∀ (listed : Array Bool) (q : Nat) (E : En) (S : St) (a : Act) (w : World), Inv ds N n0 m0 base e0 ef Hf E0 S0 w0 listed q E S a w → Region.ready .any ops listed = [] → ∀ i, i < listed.size → listed.getD i false = true := by
    intro listed q E S a w inv hr i
    induction i using Nat.strongRecOn with
    | ind i ih =>
      intro hi
      cases hb : listed.getD i false with
      | true => rfl
      | false =>
        exfalso
        have hil : i < ds.length := by rw [← inv.size]; exact hi
        have hd : ds[i]? = some ds[i] := by simp [hil]
        have ho : ops[i]? = some (ops[i]'(by omega)) := by simp
        have hmem : i ∈ Region.ready .any ops listed := by
          refine mem_ready.2 ⟨?_, _, ho, fun e he hbi => ?_⟩
          · simp only [Array.getD, hi, dif_pos] at hb ⊢; exact hb
          · have hs : e.on ∈ aftOf ops i := by
              simp only [aftOf, ho, List.mem_map, List.mem_filter]
              exact ⟨e, ⟨by simpa using he, hbi⟩, rfl⟩
            have hlt := (ok i _ hd).back _ hs
            exact ih _ hlt (by omega)
        rw [hr] at hmem; cases hmem
  intro fuel
  induction fuel with
  | zero =>
    intro listed q E S a w inv hc
    have hall : ∀ i, i < listed.size → listed.getD i false = true := fun i hi => count_all (by omega) hi
    refine ⟨?_, done listed q E S a w inv hall⟩
    cases hr : Region.ready .any ops listed with
    | nil => rfl
    | cons i l =>
      exfalso
      have : i ∈ Region.ready .any ops listed := by rw [hr]; simp
      obtain ⟨h1, _⟩ := mem_ready.1 this
      obtain ⟨h2, h3⟩ := getD_true.1 h1
      obtain ⟨h4, h5⟩ := getD_false.1 (hall i h2)
      rw [h3] at h5; cases h5
  | succ fuel ih =>
    intro listed q E S a w inv hc
    refine ⟨fun hr => done listed q E S a w inv (none_ready listed q E S a w inv hr), fun i hi => ?_⟩
    refine draw_step inv ok hlen hn0 hcomp facts chks hi fun a' w' E' q' S' inv' => ih _ q' E' S' a' w' inv' ?_
    have := count_set (mem_ready.1 hi).1
    omega
end

/-! Compiling such a region. -/
def dedup : List Nat → List Nat
  | [] => []
  | x :: xs => if xs.contains x then dedup xs else x :: dedup xs

def ancs : List (List Nat) → List (List Nat) → List (List Nat)
  | [], acc => acc
  | a :: as, acc => ancs as (acc ++ [dedup (a ++ a.flatMap fun s => (acc[s]?).getD [])])

def isNew : K → Bool
  | .new _ => true
  | _ => false

def newZ : O' → List V
  | ⟨_, _, .new z⟩ => [z]
  | _ => []

def sized : List V → Bool
  | [] => true
  | z :: zs => decide (0 < z.size) && sized zs

theorem sized_spec : ∀ {zs : List V}, sized zs = true → ∀ z, z ∈ zs → 0 < z.size
  | [], _, z, h => by cases h
  | z0 :: zs, h, z, hz => by
    simp only [sized, Bool.and_eq_true, decide_eq_true_eq] at h
    rcases List.mem_cons.1 hz with rfl | hz
    · exact h.1
    · exact sized_spec h.2 z hz

def slotsOk (ds : List D) (n : Nat) : Bool := (List.range ds.length).all fun i => match slotAt ds i with
  | some s => decide (s < n)
  | none => true

theorem slotsOk_spec {ds : List D} {n : Nat} (h : slotsOk ds n = true) : ∀ i s, slotAt ds i = some s → s < n := fun i s hs => by
  unfold slotsOk at h
  simp only [List.all_eq_true, List.mem_range] at h
  have := h i (slotAt_lt hs)
  rw [hs] at this
  simpa using this

def compDraw (P : Program) (N : Nat) (ops : Array Oper) : Option (List D × List V) :=
  match ops.toList.mapM (compOper P N ops) with
  | none => none
  | some os =>
    let as := ancs ((List.range ops.size).map (aftOf ops)) []
    let ws := os.map fun o => o.k.writes && !isNew o.k
    let wi := (List.range os.length).filter fun i => (ws[i]?).getD false
    let ds := os.mapIdx fun j o => 
        let anc := (as[j]?).getD []
        let w := (ws[j]?).getD false
        let p := ((ws.take j).filter id).length
        let lo := if w then p else (wi.takeWhile fun i => anc.contains i).length
        let hi := if w then p else (wi.takeWhile fun i => !((as[i]?).getD []).contains j).length
        let slot := if isNew o.k then some ((os.take j).filter fun o => isNew o.k).length else none
        { o := o, w := w, slot := slot, chk := slot.isSome || (!w && o.k.reads && decide (lo < hi)), anc := anc, lo := lo, hi := hi : D }
    let zs := os.flatMap newZ
    if compD P N ops ds = true ∧ P.follows .mixedOrders = true ∧ sized zs = true ∧ slotsOk ds zs.length = true then some (ds, zs) else none

def dchkQ (base : Nat) (ef : Env) (d : D) : List St → Prop
  | [] => True
  | T :: Ts => (match d.slot with
    | some s => match d.o.k with
      | .new z => T[base + s]? = some (.arr [z] z.size 1) ∧ 0 < z.size ∧ (z.cells.all V.flat) = true
      | _ => False
    | none => ∃ v, evK ef T d.o.k = some (v, T) ∧ ∀ t, d.o.dst = some t → ef.get t = some v) ∧ dchkQ base ef d Ts

def dchkL (base : Nat) (ef : Env) (H : List St) : List D → Prop
  | [] => True
  | d :: ds => (if (d.chk && !d.w) = true then match wantedV ef d.o.g with
      | some true => dchkQ base ef d ((H.drop d.lo).take (d.hi + 1 - d.lo))
      | _ => True
    else True) ∧ dchkL base ef H ds

theorem dchkQ_mem {base : Nat} {ef : Env} {d : D} : ∀ {Ts : List St}, dchkQ base ef d Ts → ∀ T, T ∈ Ts → match d.slot with
    | some s => match d.o.k with
      | .new z => T[base + s]? = some (.arr [z] z.size 1) ∧ 0 < z.size ∧ (z.cells.all V.flat) = true
      | _ => False
    | none => ∃ v, evK ef T d.o.k = some (v, T) ∧ ∀ t, d.o.dst = some t → ef.get t = some v
  | [], _, T, h => by cases h
  | T0 :: Ts, ⟨h1, h2⟩, T, h => by
    rcases List.mem_cons.1 h with rfl | h
    · exact h1
    · exact dchkQ_mem h2 T h

theorem dchkL_spec {base : Nat} {ef : Env} {H : List St} : ∀ {ds : List D}, dchkL base ef H ds → dchks base ef H ds
  | [], _, d, h, _, _, _ => by cases h
  | d0 :: ds, ⟨h1, h2⟩, d, h, hc, hw, hg => by
    rcases List.mem_cons.1 h with rfl | h
    · rw [if_pos (by simp [hc, hw]), hg] at h1
      intro q hlo hhi T hT
      refine dchkQ_mem h1 T ?_
      have : ((H.drop d.lo).take (d.hi + 1 - d.lo))[q - d.lo]? = some T := by
        rw [List.getElem?_take_of_lt (by omega), List.getElem?_drop, show d.lo + (q - d.lo) = q by omega]; exact hT
      exact List.mem_of_getElem? this
    · exact dchkL_spec h2 d h hc hw hg

def dend (base : Nat) (ds : List D) (Q : Env → St → Prop) (ef : Env) (H : List St) : Prop :=
  dchkL base ef H ds ∧ match H.getLast? with
    | some S => Q ef S
    | none => False

theorem mapM_get {α β : Type} {f : α → Option β} : ∀ {l : List α} {r : List β}, l.mapM f = some r → r.length = l.length ∧ ∀ (i : Nat) (x : α) (y : β), l[i]? = some x → r[i]? = some y → f x = some y
  | [], r, h => by simp at h; subst h; exact ⟨rfl, fun i x y h => by simp at h⟩
  | a :: l, r, h => by
    simp only [List.mapM_cons, Option.bind_eq_bind] at h
    cases ha : f a with
    | none => rw [ha] at h; simp at h
    | some b =>
      rw [ha] at h
      cases hl : l.mapM f with
      | none => rw [hl] at h; simp at h
      | some bs =>
        rw [hl] at h
        simp at h
        subst h
        obtain ⟨h1, h2⟩ := mapM_get hl
        refine ⟨by simp [h1], fun i x y hx hy => ?_⟩
        cases i with
        | zero => simp at hx hy; subst hx; subst hy; exact ha
        | succ i => exact h2 i x y (by simpa using hx) (by simpa using hy)

theorem wix_len {ds : List D} : (wix ds).length = ds.countP fun d => d.w := by
  unfold wix
  rw [← List.countP_eq_length_filter]
  have : ∀ (l : List D) (k : Nat), List.countP (fun i => ((k + l.length) - (k + l.length) = 0) && ((l[i]?.map D.w).getD false)) (List.range l.length) = l.countP fun d => d.w := by
    intro l
    induction l with
    | nil => intro k; rfl
    | cons d l ih =>
      intro k
      have h1 : List.range (d :: l).length = 0 :: (List.range l.length).map (· + 1) := by
        rw [List.length_cons, List.range_succ_eq_map]
      rw [h1, List.countP_cons, List.countP_map, List.countP_cons]
      have := ih 0
      simp at this ⊢
      rw [← this]
      rfl
  have h := this ds 0
  simpa using h

theorem compDraw_spec {P : Program} {N : Nat} {ops : Array Oper} {ds : List D} {zs : List V} (h : compDraw P N ops = some (ds, zs)) :
    P.follows .mixedOrders = true ∧ compD P N ops ds = true ∧ sized zs = true ∧ (∀ i s, slotAt ds i = some s → s < zs.length) ∧ ∀ (j : Nat) (d : D) (o : Oper), ds[j]? = some d → ops[j]? = some o → compOper P N ops o = some d.o := by
  unfold compDraw at h
  split at h
  · cases h
  · rename_i os hos
    simp only [] at h
    split at h
    · rename_i hc
      obtain ⟨hc, hm, hz, hs⟩ := hc
      simp only [Option.some.injEq, Prod.mk.injEq] at h
      obtain ⟨rfl, rfl⟩ := h
      refine ⟨hm, hc, hz, slotsOk_spec hs, fun j d o hj ho => ?_⟩
      rw [List.getElem?_mapIdx] at hj
      simp only [Option.map_eq_some_iff] at hj
      obtain ⟨o', ho', rfl⟩ := hj
      exact (mapM_get hos).2 j o o' (by simpa using ho) ho'
    · cases h

theorem draw_sound_any {P : Program} {N n0 m0 : Nat} {ro : Option Nat} {n : Nat} {ops : Array Oper} {Q : Post} {ds : List D} {zs : List V} {E : En} {e : Env} {S : St} {a : Act} {w : World}
    (hc : compDraw P N ops = some (ds, zs)) (hr : Rel N n0 m0 E e S a w)
    (h : dwp P S.length ds (dend S.length ds (Q .normal)) e (S ++ phs zs) [S ++ phs zs]) : wpAnyIn (fence ro) n P .any ops (Up N n0 m0 E S w Q) ops.size (Array.replicate ops.size false) a { w with drawn := w.drawn + 1 } := by
  obtain ⟨hm, hcd, hz, hslots, hcomp⟩ := compDraw_spec hc
  obtain ⟨hlen, hok⟩ := compD_spec hcd
  obtain ⟨ef, Hf, ⟨h1, h2⟩, htr⟩ := dwp_tr ds _ _ _ h
  obtain ⟨p1, p2⟩ := (hr.sr.heap (w' := { w with drawn := w.drawn + 1 }) rfl).phantoms zs (sized_spec hz)
  have hfacts := fun (j : Nat) (d : D) (hj : ds[j]? = some d) => Tr_facts (aft := aftOf ops) hok ds 0 e (S ++ phs zs) [S ++ phs zs] ef Hf (by simp) (by simp [pos]) (by simp [pos]) htr (fun _ _ => rfl) j d (Nat.zero_le _) hj
  have hext0 : Ext n0 E S w E (S ++ phs zs) { w with drawn := w.drawn + 1 } := (Ext.heap (w := w) (w' := { w with drawn := w.drawn + 1 }) n0 rfl rfl).trans (p2 n0)
  obtain ⟨T, hT1, hT2⟩ := Tr_pre ds _ _ _ _ _ htr
  have hHf : Hf.length = (wix ds).length + 1 := by rw [hT1, wix_len]; simp [hT2, Nat.add_comm]
  refine draw_any (base := S.length) (e0 := e) hok hlen hr.base hcomp hfacts (dchkL_spec h1) (fun S' hS' => by rw [hS'] at h2; exact h2) hHf ops.size (Array.replicate ops.size false) 0 E (S ++ phs zs) a { w with drawn := w.drawn + 1 } ?_ (by simp)
  have hfalse : ∀ i, (Array.replicate ops.size false).getD i false = false := fun i => by
    simp only [Array.getD]
    split <;> simp
  refine ⟨by simp [hlen], fun j d _ hl => (by rw [hfalse] at hl; cases hl), fun p i _ => (by rw [hfalse i]; simp), Nat.zero_le _, by rw [hT1]; simp, fun t v hv hall => ?_, fun t v hv _ => hr.tmps t v hv, fun i s _ _ st => ?_, hr.size, Marks.step hext0 hr.defers, p1, by simp, fun i s hs => by simp [phs]; exact hslots i s hs, hext0⟩
  · have : ef.get t = e.get t := Tr_get ds _ _ _ _ _ htr fun d hd hdd => by
      obtain ⟨i, hi⟩ := List.getElem?_of_mem hd
      have := hall i (by simp [dstAt, hi, hdd])
      rw [hfalse] at this; cases this
    rw [this] at hv
    exact hr.tmps t v hv
  · cases hx : E.ρ (S.length + s) st with
    | none => rfl
    | some x => exact absurd (hr.sr.dom _ _ _ hx) (by omega)

theorem draw_sound {P : Program} {N n0 m0 : Nat} {ro : Option Nat} {n id : Nat} {ops : Array Oper} {Q : Post} {ds : List D} {zs : List V} {E : En} {e : Env} {S : St} {a : Act} {w : World}
    (hc : compDraw P N ops = some (ds, zs)) (hr : Rel N n0 m0 E e S a w)
    (h : dwp P S.length ds (dend S.length ds (Q .normal)) e (S ++ phs zs) [S ++ phs zs]) : (Code.region id ops true).wpIn (fence ro) n P (Up N n0 m0 E S w Q) a w :=
  wpIn_region_any (compDraw_spec hc).1 (draw_sound_any hc hr h)
end Go.Proofs.YtbifpocccfkhhaaGreatDoor
/- Regions with an open order whose last operation comes behind all others. -/
namespace Go.Proofs.YtbifpocccfkhhaaGreatDoor
open Go

def closure (m : Nat) (aft : Nat → List Nat) : Nat → List Nat → List Nat
  | 0, S => S
  | n + 1, S => closure m aft n ((List.range m).filter fun i => S.contains i || S.any fun s => (aft s).contains i)

theorem closure_spec {m : Nat} {aft : Nat → List Nat} {C : Nat → Prop} (hC : ∀ s, C s → ∀ r, r ∈ aft s → C r) : ∀ (n : Nat) (S : List Nat), (∀ s, s ∈ S → C s) → ∀ s, s ∈ closure m aft n S → C s
  | 0, S, h => h
  | n + 1, S, h => closure_spec hC n _ fun s hs => by
    simp only [List.mem_filter, Bool.or_eq_true, List.contains_iff_mem, List.any_eq_true] at hs
    rcases hs.2 with h1 | ⟨r, h1, h2⟩
    · exact h s h1
    · exact hC r (h r h1) s h2

/-- The last operation comes behind all others. -/
def lastAll (ops : Array Oper) : Bool :=
  let m := ops.size - 1
  let S := closure m (aftOf ops) m (aftOf ops m)
  (List.range m).all (fun i => S.contains i) && (aftOf ops m).all (fun r => decide (r < m)) && (List.range m).all (fun i => (aftOf ops i).all (fun r => decide (r < i)) && match ops[i]? with
    | some o => match o.guard with
      | none => true
      | some (j, _) => decide (j < m)
    | none => false)

theorem Oper.wpIn_exit {F : Fence} {n : Nat} {P : Program} {o : Oper} {a : Act} {w : World} {K : Act → World → Prop} {Q Q' : Exit → Act → World → Prop} (hq : ∀ x a w, x ≠ .normal → Q x a w → Q' x a w) (h : o.wpIn F n P a w K Q) : o.wpIn F n P a w K Q' := by
  obtain ⟨h1, h2⟩ := h
  have hlet : LetsOut Q → LetsOut Q' := fun ⟨a, w, h⟩ => ⟨a, w, hq _ _ _ (by simp) h⟩
  refine ⟨h1, ?_⟩
  generalize (o.semAt F.round a.eval).run P w = r at h2 ⊢
  cases r with
  | ok nx w' =>
    cases nx <;> simp only [Oper.uponIn] at h2 ⊢
    case value v => exact h2
    case skip => exact h2
    case defer d => exact h2
    case enter f args => exact ⟨h2.1, h2.2.mono fun e w'' he => by cases e <;> first | exact he | exact hq _ _ _ (by simp) he | exact hlet he⟩
    case row r args => exact ⟨h2.1, h2.2.mono fun v w'' he => he⟩
    case round l f t x y => exact ⟨h2.1, h2.2.mono fun e w'' he => by cases e <;> first | exact he | exact hq _ _ _ (by simp) he | exact hlet he⟩
  | halt x w' =>
    cases x <;> simp only [Oper.uponIn] at h2 ⊢
    case panic v => exact hq _ _ _ (by simp) h2

/-- What is asked behind the others. -/
def lastQ (F : Fence) (n : Nat) (P : Program) (ops : Array Oper) (Q : Exit → Act → World → Prop) : Exit → Act → World → Prop
  | .normal, a, w => wpOpIn F n P ops Q (ops.size - 1) (Q .normal) a w
  | x, a, w => Q x a w

theorem push_getD {l : Array Bool} {i : Nat} (d : Bool) (hi : i < l.size) : (l.push false).getD i d = l.getD i d := by
  simp only [Array.getD]
  rw [dif_pos hi, dif_pos (by simp; omega)]
  simp [Array.getElem_push_lt hi]

theorem any_pop {F : Fence} {n : Nat} {P : Program} {ops' : Array Oper} {o : Oper} {Q : Exit → Act → World → Prop} (hall : lastAll (ops'.push o) = true) :
    ∀ (fuel : Nat) (l : Array Bool) (a : Act) (w : World), l.size = ops'.size → (∀ s, l.getD s false = true → ∀ r, r ∈ aftOf (ops'.push o) s → l.getD r false = true) → l.toList.count false ≤ fuel →
      wpAnyIn F n P .any ops' (lastQ F n P (ops'.push o) Q) fuel l a w → wpAnyIn F n P .any (ops'.push o) Q (fuel + 1) (l.push false) a w := by
  have hm : (ops'.push o).size - 1 = ops'.size := by simp
  simp only [lastAll, hm, Bool.and_eq_true, List.all_eq_true, List.mem_range, List.contains_iff_mem, decide_eq_true_eq] at hall
  obtain ⟨⟨hcl, hlast⟩, hgd⟩ := hall
  have ho : (ops'.push o)[ops'.size]? = some o := by simp
  have hget : ∀ i, i < ops'.size → (ops'.push o)[i]? = ops'[i]? := fun i hi => by rw [Array.getElem?_push, if_neg (by omega)]
  have haft : ∀ i o', (ops'.push o)[i]? = some o' → ∀ e, e ∈ o'.after → Region.binds .any e = true → e.on ∈ aftOf (ops'.push o) i := fun i o' ho' e he hb => by
    simp only [aftOf, ho', List.mem_map, List.mem_filter]
    exact ⟨e, ⟨by simpa using he, hb⟩, rfl⟩
  -- the last one waits
  have hwait : ∀ l : Array Bool, l.size = ops'.size → (∀ s, l.getD s false = true → ∀ r, r ∈ aftOf (ops'.push o) s → l.getD r false = true) → ops'.size ∈ Region.ready .any (ops'.push o) (l.push false) → ∀ i, i < ops'.size → l.getD i false = true := by
    intro l hl hclosed hr i hi
    obtain ⟨_, o', ho', hh⟩ := mem_ready.1 hr
    rw [ho] at ho'; cases ho'
    refine closure_spec (C := fun s => l.getD s false = true) hclosed ops'.size (aftOf (ops'.push o) ops'.size) (fun s hs => ?_) i (hcl i hi)
    have hsl := hlast s hs
    simp only [aftOf, ho, List.mem_map, List.mem_filter] at hs
    obtain ⟨e, ⟨he, hb⟩, rfl⟩ := hs
    have := hh e (by simpa using he) hb
    rw [push_getD _ (by rw [hl]; exact hsl)] at this; exact this
  -- the others are ready as before
  have hready : ∀ l : Array Bool, l.size = ops'.size → ∀ i, i < ops'.size → (i ∈ Region.ready .any (ops'.push o) (l.push false) ↔ i ∈ Region.ready .any ops' l) := by
    intro l hl i hi
    rw [mem_ready, mem_ready, hget i hi, push_getD _ (by omega)]
    have hafter : ∀ o', ops'[i]? = some o' → ∀ e ∈ o'.after, Region.binds .any e = true → e.on < ops'.size := by
      intro o' ho' e he hb
      have := (hgd i hi).1 e.on (haft i o' (by rw [hget i hi]; exact ho') e he hb)
      omega
    constructor
    · rintro ⟨h1, o', h2, h3⟩
      exact ⟨h1, o', h2, fun e he hb => by
        have := h3 e he hb
        rw [push_getD _ (by rw [hl]; exact hafter o' h2 e he hb)] at this; exact this⟩
    · rintro ⟨h1, o', h2, h3⟩
      exact ⟨h1, o', h2, fun e he hb => by
        rw [push_getD _ (by rw [hl]; exact hafter o' h2 e he hb)]; exact h3 e he hb⟩
  have hrange : ∀ (l : Array Bool) (i : Nat), i ∈ Region.ready .any (ops'.push o) (l.push false) → i < ops'.size ∨ i = ops'.size := fun l i hi => by
    obtain ⟨_, o', ho', _⟩ := mem_ready.1 hi
    have := (Array.getElem?_eq_some_iff.1 ho').1
    simp at this; omega
  -- where none is ready, all are listed
  have hnone : ∀ l : Array Bool, l.size = ops'.size → Region.ready .any ops' l = [] → ∀ i, i < ops'.size → l.getD i false = true := by
    intro l hl hr i
    induction i using Nat.strongRecOn with
    | ind i ih =>
      intro hi
      cases hb : l.getD i false with
      | true => rfl
      | false =>
        exfalso
        have hoi : ops'[i]? = some (ops'[i]'hi) := by simp
        have hmem : i ∈ Region.ready .any ops' l := by
          refine mem_ready.2 ⟨?_, _, hoi, fun e he hbi => ?_⟩
          · have hil : i < l.size := by omega
            simp only [Array.getD, hil, dif_pos] at hb ⊢; exact hb
          · have hlt := (hgd i hi).1 e.on (haft i _ (by rw [hget i hi]; exact hoi) e he hbi)
            exact ih _ hlt (by omega)
        rw [hr] at hmem; cases hmem
  have hlastReady : ∀ l : Array Bool, l.size = ops'.size → (∀ i, i < ops'.size → l.getD i false = true) → ops'.size ∈ Region.ready .any (ops'.push o) (l.push false) := by
    intro l hl hall
    refine mem_ready.2 ⟨by simp [Array.getD, hl, Array.getElem_push], o, ho, fun e he hb => ?_⟩
    have hlt := hlast e.on (haft _ o ho e he hb)
    rw [push_getD _ (by omega)]
    exact hall _ hlt
  -- behind the last one
  have hdone : ∀ (fuel : Nat) (l : Array Bool) (a : Act) (w : World), l.size = ops'.size → (∀ i, i < ops'.size → l.getD i false = true) → Q .normal a w → wpAnyIn F n P .any (ops'.push o) Q fuel ((l.push false).setIfInBounds ops'.size true) a w := by
    intro fuel l a w hl hall hQ
    have hempty : Region.ready .any (ops'.push o) ((l.push false).setIfInBounds ops'.size true) = [] := by
      cases hr : Region.ready .any (ops'.push o) ((l.push false).setIfInBounds ops'.size true) with
      | nil => rfl
      | cons i r =>
        exfalso
        have hi : i ∈ Region.ready .any (ops'.push o) ((l.push false).setIfInBounds ops'.size true) := by rw [hr]; simp
        obtain ⟨h1, o', ho', _⟩ := mem_ready.1 hi
        have hlt := (Array.getElem?_eq_some_iff.1 ho').1
        simp only [Array.size_push] at hlt
        have htrue : ((l.push false).setIfInBounds ops'.size true).getD i false = true := by
          rw [set_getD (by simp; omega)]
          by_cases hil : i = ops'.size
          · exact .inl hil
          · right
            rw [push_getD _ (by omega)]
            exact hall i (by omega)
        obtain ⟨h2, h3⟩ := getD_true.1 h1
        obtain ⟨h4, h5⟩ := getD_false.1 htrue
        rw [h3] at h5; cases h5
    cases fuel with
    | zero => exact ⟨hempty, hQ⟩
    | succ f => exact ⟨fun _ => hQ, fun i hi => by rw [hempty] at hi; cases hi⟩
  have hopmono : ∀ {i : Nat} {K K' : Act → World → Prop} {a : Act} {w : World}, (∀ a w, K a w → K' a w) → wpOpIn F n P (ops'.push o) Q i K a w → wpOpIn F n P (ops'.push o) Q i K' a w := by
    intro i K K' a w hK h
    unfold wpOpIn at h ⊢
    split
    · rename_i h1; rw [h1] at h; exact hK _ _ h
    · rename_i o1 h1
      rw [h1] at h
      simp only at h
      split
      · rename_i hw; rw [if_pos hw] at h; exact Oper.wpIn_mono hK h
      · rename_i hw; rw [if_neg hw] at h; exact ⟨h.1, hK _ _ h.2⟩
  have last : ∀ (fuel : Nat) (l : Array Bool) (a : Act) (w : World), l.size = ops'.size → (∀ i, i < ops'.size → l.getD i false = true) → lastQ F n P (ops'.push o) Q .normal a w →
      wpOpIn F n P (ops'.push o) Q ops'.size (wpAnyIn F n P .any (ops'.push o) Q fuel ((l.push false).setIfInBounds ops'.size true)) a w := by
    intro fuel l a w hl hall h
    simp only [lastQ, hm] at h
    exact hopmono (fun a w hq => hdone fuel l a w hl hall hq) h
  intro fuel
  induction fuel with
  | zero =>
    intro l a w hl hclosed hc h
    obtain ⟨h1, h2⟩ := h
    have hall := hnone l hl h1
    refine ⟨fun hr => ?_, fun i hi => ?_⟩
    · have := hlastReady l hl hall
      rw [hr] at this; cases this
    · rcases hrange l i hi with hlt | rfl
      · rw [hready l hl i hlt, h1] at hi; cases hi
      · exact last 0 l a w hl hall h2
  | succ fuel ih =>
    intro l a w hl hclosed hc h
    obtain ⟨h1, h2⟩ := h
    refine ⟨fun hr => ?_, fun i hi => ?_⟩
    · have hr' : Region.ready .any ops' l = [] := by
        cases hq : Region.ready .any ops' l with
        | nil => rfl
        | cons j r =>
          exfalso
          have hj : j ∈ Region.ready .any ops' l := by rw [hq]; simp
          obtain ⟨_, o', ho', _⟩ := mem_ready.1 hj
          have hlt := (Array.getElem?_eq_some_iff.1 ho').1
          rw [← hready l hl j hlt, hr] at hj; cases hj
      have := hlastReady l hl (hnone l hl hr')
      rw [hr] at this; cases this
    · rcases hrange l i hi with hlt | rfl
      · have hi' := (hready l hl i hlt).1 hi
        have hop := h2 i hi'
        obtain ⟨hun, o1, ho1, _⟩ := mem_ready.1 hi'
        have hset : (l.push false).setIfInBounds i true = (l.setIfInBounds i true).push false := by
          apply Array.ext_getElem?
          intro j
          rw [Array.getElem?_setIfInBounds, Array.getElem?_push, Array.getElem?_push, Array.getElem?_setIfInBounds]
          simp only [Array.size_push, Array.size_setIfInBounds]
          by_cases hij : i = j
          · subst hij
            rw [if_pos rfl, if_pos (by omega), if_neg (by omega), if_pos rfl, if_pos (by omega)]
          · rw [if_neg hij, if_neg hij]
        have hnext : ∀ a' w', wpAnyIn F n P .any ops' (lastQ F n P (ops'.push o) Q) fuel (l.setIfInBounds i true) a' w' → wpAnyIn F n P .any (ops'.push o) Q (fuel + 1) ((l.push false).setIfInBounds i true) a' w' := by
          intro a' w' h'
          rw [hset]
          refine ih _ a' w' (by simpa using hl) (fun s hs r hr => ?_) ?_ h'
          · rw [set_getD (by omega)] at hs ⊢
            rcases hs with rfl | hs
            · right
              obtain ⟨_, o2, ho2, hall2⟩ := mem_ready.1 hi'
              simp only [aftOf, hget s hlt, ho2, List.mem_map, List.mem_filter] at hr
              obtain ⟨e, ⟨he, hb⟩, rfl⟩ := hr
              exact hall2 e (by simpa using he) hb
            · exact .inr (hclosed s hs r hr)
          · have := count_set hun
            omega
        unfold wpOpIn at hop ⊢
        rw [hget i hlt, ho1]
        rw [ho1] at hop
        simp only at hop ⊢
        have hwd : Region.wanted o1 (yielded (ops'.push o) a.tmps) = Region.wanted o1 (yielded ops' a.tmps) := by
          have hg := (hgd i hlt).2
          rw [hget i hlt, ho1] at hg
          simp only at hg
          unfold Region.wanted
          split
          · rfl
          · rename_i j want hgj
            rw [hgj] at hg
            simp only [decide_eq_true_eq] at hg
            simp only [yielded, hget j hg]
        rw [hwd]
        split
        · rename_i hw
          rw [if_pos hw] at hop
          refine Oper.wpIn_exit (fun x a w hx hq => ?_) (Oper.wpIn_mono hnext hop)
          cases x <;> first | exact absurd rfl hx | exact hq
        · rename_i hw
          rw [if_neg hw] at hop
          exact ⟨hop.1, hnext _ _ hop.2⟩
      · have hall := hwait l hl hclosed hi
        have hr' : Region.ready .any ops' l = [] := by
          cases hq : Region.ready .any ops' l with
          | nil => rfl
          | cons j r =>
            exfalso
            have hj : j ∈ Region.ready .any ops' l := by rw [hq]; simp
            obtain ⟨h3, o', ho', _⟩ := mem_ready.1 hj
            have hlt := (Array.getElem?_eq_some_iff.1 ho').1
            obtain ⟨h4, h5⟩ := getD_true.1 h3
            obtain ⟨h6, h7⟩ := getD_false.1 (hall j hlt)
            rw [h5] at h7; cases h7
        exact last (fuel + 1) l a w hl hall (h1 hr')

theorem any_mono {F : Fence} {n : Nat} {P : Program} {ops : Array Oper} {md : Region.Mode} {Q Q' : Exit → Act → World → Prop} (hq : ∀ x a w, Q x a w → Q' x a w) : ∀ (fuel : Nat) (l : Array Bool) (a : Act) (w : World), wpAnyIn F n P md ops Q fuel l a w → wpAnyIn F n P md ops Q' fuel l a w
  | 0, l, a, w, h => ⟨h.1, hq _ _ _ h.2⟩
  | fuel + 1, l, a, w, h => by
    refine ⟨fun hr => hq _ _ _ (h.1 hr), fun i hi => ?_⟩
    have hop := h.2 i hi
    unfold wpOpIn at hop ⊢
    split
    · rename_i h1; rw [h1] at hop; exact any_mono hq fuel _ _ _ hop
    · rename_i o1 h1
      rw [h1] at hop
      simp only at hop
      split
      · rename_i hw
        rw [if_pos hw] at hop
        exact Oper.wpIn_exit (fun x a w _ hx => hq x a w hx) (Oper.wpIn_mono (fun a w hx => any_mono hq fuel _ _ _ hx) hop)
      · rename_i hw
        rw [if_neg hw] at hop
        exact ⟨hop.1, any_mono hq fuel _ _ _ hop.2⟩

/-- The last operation's post. -/
def lastPost (P : Program) (o' : O') (Q : Post) : Post
  | .normal, e, S => wops P [o'] (Q .normal) e S
  | x, e, S => Q x e S

theorem drawl_sound {P : Program} {N n0 m0 : Nat} {ro : Option Nat} {n id : Nat} {ops : Array Oper} {Q : Post} {ds : List D} {zs : List V} {o : Oper} {o' : O'} {E : En} {e : Env} {S : St} {a : Act} {w : World}
    (hc : compDraw P N ops = some (ds, zs)) (hall : lastAll (ops.push o) = true) (ho : compOper P N (ops.push o) o = some o') (hr : Rel N n0 m0 E e S a w)
    (h : dwp P S.length ds (dend S.length ds (lastPost P o' Q .normal)) e (S ++ phs zs) [S ++ phs zs]) : (Code.region id (ops.push o) true).wpIn (fence ro) n P (Up N n0 m0 E S w Q) a w := by
  refine wpIn_region_any (compDraw_spec hc).1 ?_
  have h1 := draw_sound_any (ro := ro) (n := n) (Q := lastPost P o' Q) hc hr h
  have h2 := any_mono (Q' := lastQ (fence ro) n P (ops.push o) (Up N n0 m0 E S w Q)) (fun x a1 w1 hx => by
    cases x <;> try exact hx
    obtain ⟨E', e', S', r, xt, q⟩ := hx
    have hw := wops_sound (n := n) (ro := ro) (Q := Q) (ops := ops.push o) [o] [o'] E' e' S' a1 w1 (by simp [ho]) r q
    have hw := wpListIn_mono (Q' := Up N n0 m0 E S w Q) (fun x a' w'' hq => hq.back xt) hw
    simp only [lastQ, Array.size_push, Nat.add_sub_cancel]
    unfold wpOpIn
    rw [show (ops.push o)[ops.size]? = some o by simp]
    exact hw) ops.size _ a _ h1
  have h3 := any_pop hall ops.size (Array.replicate ops.size false) a _ (by simp) (fun s hs => by
    have : (Array.replicate ops.size false).getD s false = false := by
      simp only [Array.getD]
      split <;> simp
    rw [this] at hs; cases hs) (by simp) h2
  rw [Array.size_push, Array.replicate_succ]
  exact h3
end Go.Proofs.YtbifpocccfkhhaaGreatDoor
