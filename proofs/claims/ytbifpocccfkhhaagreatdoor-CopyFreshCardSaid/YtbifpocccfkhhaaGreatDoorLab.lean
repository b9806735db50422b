/- Appending, in the words of abstract values. -/
import Derived.Test.YtbifpocccfkhhaaGreatDoorLaa
namespace Go.Proofs.YtbifpocccfkhhaaGreatDoor
open Go

def fits (sz : Nat) (ys : List V) : Bool := ys.all fun y => y.size == sz && y.cells.all V.flat

theorem fits_size {sz : Nat} {ys : List V} (h : fits sz ys = true) : ∀ y, y ∈ ys → y.size = sz := fun y hy => by
  simp only [fits, List.all_eq_true, Bool.and_eq_true, beq_iff_eq] at h
  exact (h y hy).1
theorem fits_flat {sz : Nat} {ys : List V} (h : fits sz ys = true) : ∀ c, c ∈ flats ys → c.flat = true := fun c hc => by
  simp only [fits, List.all_eq_true, Bool.and_eq_true, beq_iff_eq] at h
  obtain ⟨y, hy, hc⟩ := List.mem_flatMap.1 hc
  exact (h y hy).2 c hc

/-- append(d, x...). -/
def appS (S : St) (sz bytes : Nat) (d x : V) : Option (V × St) :=
  match elems S x with
  | none => none
  | some ys => match d with
    | .sl e xs => if ys.isEmpty then some (d, S) else
      if e = true ∧ fits sz ys = true ∧ (xs.all fun v => v.size == sz) = true ∧ (xs.length + ys.length) * bytes ≤ 2 ^ 47 then
        some (.arr S.length 0 (xs.length + ys.length) (xs.length + ys.length), S ++ [.arr (xs ++ ys) sz (xs.length + ys.length)]) else none
    | .arr l off len st => match S[l]? with
      | some (.arr zs s wr) => if off = 0 ∧ len = zs.length ∧ st = zs.length ∧ s = sz ∧ fits sz ys = true ∧ (zs.length + ys.length) * bytes ≤ 2 ^ 47 then
          some (.arr l 0 (zs.length + ys.length) (zs.length + ys.length), S.set l (.arr (zs ++ ys) sz wr)) else none
      | _ => none
    | _ => none

theorem agg_get {E : En} {cs : List V} {us : Array Value} (h : VR E (.agg cs) (.agg us)) : cs.length = us.size ∧ ∀ (i : Nat) (c : V), cs[i]? = some c → ∃ d, us[i]? = some d ∧ VR E c d := by
  cases h with
  | agg h g => exact ⟨h, fun i c hc => by
      have hi : i < us.size := by rw [← h]; exact (List.getElem?_eq_some_iff.1 hc).1
      exact ⟨us[i], by simp [hi], g i c _ hc (by simp [hi])⟩⟩

theorem flats_append (xs ys : List V) : flats (xs ++ ys) = flats xs ++ flats ys := by simp [flats]

/-- A row made of two. -/
theorem holds_new {E : En} {w : World} {xs ys : List V} {sz : Nat} {old new rest : Array Value} {b : Nat} {t : TypeId} (h0 : 0 < sz) (hx : ∀ v, v ∈ xs → v.size = sz) (hy : ∀ v, v ∈ ys → v.size = sz)
    (ho : VR E (.agg (flats xs)) (.agg old)) (hn : VR E (.agg (flats ys)) (.agg new)) (hb : w.heap[b]? = some (.cells (old ++ new ++ rest) t (0, 0))) :
    Holds E w ⟨b, (old ++ new ++ rest).size, sz⟩ (xs ++ ys) (xs.length + ys.length) := by
  obtain ⟨o1, o2⟩ := agg_get ho
  obtain ⟨n1, n2⟩ := agg_get hn
  have hxy : ∀ v, v ∈ xs ++ ys → v.cells.length = sz := fun v hv => by
    rcases List.mem_append.1 hv with hv | hv
    · exact hx v hv
    · exact hy v hv
  have lx := flats_length (xs := xs) (sz := sz) hx
  have ly := flats_length (xs := ys) (sz := sz) hy
  refine ⟨_, t, hb, rfl, ?_, fun i v hv hi j c hc => ?_⟩
  · simp only [Array.size_append]; rw [← o1, ← n1, lx, ly, Nat.add_mul]; omega
  · show ∃ e, (old ++ new ++ rest)[i * sz + j]? = some e ∧ VR E c e
    have hj : j < sz := by
      have := (List.getElem?_eq_some_iff.1 hc).1
      rw [hxy v (List.mem_of_getElem? hv)] at this; exact this
    have hf := flats_get hxy hv hj
    rw [hc, flats_append] at hf
    by_cases hk : i * sz + j < (flats xs).length
    · rw [List.getElem?_append_left hk] at hf
      obtain ⟨d, hd, hr⟩ := o2 _ _ hf
      refine ⟨d, ?_, hr⟩
      rw [Array.append_assoc, Array.getElem?_append_left (by omega)]; exact hd
    · rw [List.getElem?_append_right (by omega)] at hf
      obtain ⟨d, hd, hr⟩ := n2 _ _ hf
      have hlt := (Array.getElem?_eq_some_iff.1 hd).1
      refine ⟨d, ?_, hr⟩
      rw [Array.append_assoc, Array.getElem?_append_right (by omega), Array.getElem?_append_left (by omega), ← hd]
      congr 1; omega

theorem at_le' {E : En} {l st : Nat} {x : Blk} (h : ∀ y, E.ρ l st = some y → y = x) : E.le (E.at l st x) :=
  ⟨fun _ _ _ h => h, fun l' st' y hy => by
    by_cases hk : l' = l ∧ st' = st
    · obtain ⟨rfl, rfl⟩ := hk; rw [h y hy]; simp [En.at]
    · simp [En.at, hk]; exact hy⟩

theorem sim_append {E : En} {S S' : St} {P : Program} {w : World} {d x r : V} {u a : Value} {ts : Array TypeId} {T : TypeId} {sz bytes : Nat} (hs : SR E S w) (ht : AppTy P ts sz bytes) (hd : VR E d u) (hx : VR E x a) (h : appS S sz bytes d x = some (r, S')) :
    Sim P E S w (Builtin.append_ ts T #[u, a]) r S' := by
  have h0 : 0 < sz := by obtain ⟨_, _, _, _, _, _, _, _, _, _, _, _, _, _, _, h, _⟩ := ht.h; exact h
  unfold appS at h
  split at h <;> try cases h
  rename_i ys hel
  have hs1 : SR E S { w with drawn := w.drawn + 1 } := hs.heap rfl
  split at h
  · -- a slice whose elements are never written
    rename_i e xs
    split at h
    · rename_i hemp
      cases h
      have hy0 : ys = [] := by simpa using hemp
      subst hy0
      obtain ⟨b, c, us, rfl, _, _⟩ := run_firstCells (P := P) (sz := sz) hs hx hel (by simp) h0
      have hcap : ∃ base cap, u = .slice base xs.length cap ∧ xs.length ≤ cap := by
        cases hd with
        | slnil x => exact ⟨none, 0, rfl, by simp⟩
        | slz x a => exact ⟨some a, 0, rfl, by simp⟩
        | sl hc => exact ⟨_, _, rfl, hc⟩
      obtain ⟨base, cap, rfl, hc⟩ := hcap
      exact Sim.pure hs (run_append_none ht hc) hd
    · rename_i hemp
      split at h <;> try cases h
      rename_i hc
      obtain ⟨rfl, hf, hxs, hroom⟩ := hc
      have hxs' : ∀ v, v ∈ xs → v.size = sz := fun v hv => by simp only [List.all_eq_true, beq_iff_eq] at hxs; exact hxs v hv
      have hys := fits_size hf
      have hne : 0 < ys.length := by
        cases ys with
        | nil => simp at hemp
        | cons y ys => simp
      obtain ⟨b, c, us, rfl, hn, hn'⟩ := run_firstCells (P := P) (sz := sz) hs1 hx hel hys h0
      obtain ⟨b', c', us', rfl, ho, ho'⟩ := run_firstCells (P := P) (sz := sz) hs1 hd (xs := xs) rfl hxs' h0
      have hcap : c' < xs.length + ys.length := by
        cases hd with
        | slnil x => simp; exact hne
        | slz x a => simp; exact hne
        | sl hc hx => rw [hx rfl]; omega
      obtain ⟨newCap, rest, t, hnc, hrest, hrun⟩ := run_append_move (T := T) ht hcap hroom ho hn
      have hno : ∀ st, E.ρ S.length st = none := fun st => by
        cases hr : E.ρ S.length st with
        | none => rfl
        | some y => exact absurd (hs.dom _ _ _ hr) (by omega)
      obtain ⟨n1, n2⟩ := hs1.new (o := .cells (us' ++ us ++ rest) t (0, 0)) (ob := .arr (xs ++ ys) sz (xs.length + ys.length)) (st := xs.length + ys.length) (N := (us' ++ us ++ rest).size) (sz := sz) (by
        refine ⟨⟨h0, by simp⟩, fun v hv => ?_, fun st y hy hst => ?_⟩
        · rcases List.mem_append.1 hv with hv | hv
          · exact hxs' v hv
          · exact hys v hv
        · by_cases hs1 : st = xs.length + ys.length
          · subst hs1
            rw [at_same] at hy; cases hy
            exact ⟨by simp, rfl, holds_new h0 hxs' hys (ho'.mono (at_le (hno _))) (hn'.mono (at_le (hno _))) push_new⟩
          · exfalso
            simp only [En.at] at hy
            rw [if_neg (by simp; exact hs1), hno] at hy; cases hy)
      refine ⟨_, _, _, hrun, ?_, n1, (Ext.heap S.length (w := w) (w' := { w with drawn := w.drawn + 1 }) rfl rfl).trans n2, by simp⟩
      have hsz1 := (agg_get ho').1
      have hsz2 := (agg_get hn').1
      rw [flats_length hxs'] at hsz1
      rw [flats_length hys] at hsz2
      have := VR.arr (E := E.at S.length (xs.length + ys.length) ⟨w.heap.size, (us' ++ us ++ rest).size, sz⟩) (l := S.length) (off := 0) (len := xs.length + ys.length) (cap := newCap) (st := xs.length + ys.length) at_same (by
        simp only [Array.size_append]
        rw [← hsz1, ← hsz2, hrest, ← Nat.add_mul, ← Nat.add_mul]
        exact Nat.mul_le_mul_right _ (by omega)) hnc
      simpa using this
  · -- an array
    rename_i l off len st
    split at h <;> try cases h
    rename_i zs s wr hob
    split at h <;> try cases h
    rename_i hc
    obtain ⟨rfl, rfl, rfl, rfl, hf, hroom⟩ := hc
    have hys := fits_size hf
    have hel0 : elems S (.arr l 0 zs.length zs.length) = some zs := by
      obtain ⟨⟨_, hw⟩, _⟩ := hs.obs l _ hob
      simp [elems, hob, hw]
    obtain ⟨⟨_, hw⟩, hzs, hst⟩ := hs.obs l _ hob
    have hlive : live S l := ⟨_, hob, by simp⟩
    cases hd with
    | arr hr hN hcc =>
      rename_i cap y
      obtain ⟨_, hysz, C, t, g3, g4, g5, g6⟩ := hst _ y hr hw
      have hlen : ∀ st' z, E.ρ l st' = some z → wr ≤ st' → st' ≤ zs.length := fun st' z hz hwz => (hst st' z hz hwz).1
      have hnone : ys ≠ [] → E.ρ l (zs.length + ys.length) = none := fun hne => by
        cases hr' : E.ρ l (zs.length + ys.length) with
        | none => rfl
        | some z =>
          have := hlen _ z hr' (by omega)
          have : 0 < ys.length := List.length_pos_iff.2 hne
          omega
      by_cases hcap : zs.length + ys.length ≤ cap
      · -- in place
        obtain ⟨b, c, us, rfl, hn, hn'⟩ := run_firstCells (P := P) (sz := s) hs hx hel hys h0
        have hus := (agg_get hn').1
        rw [flats_length hys] at hus
        have hb : y.b < w.heap.size := (Array.getElem?_eq_some_iff.1 g3).1
        have hfit : 0 * y.sz + zs.length * s + us.size ≤ C.size := by
          rw [← hus, g4, hysz]
          have : (zs.length + ys.length) * s ≤ (0 + cap) * y.sz := by rw [hysz, Nat.zero_add]; exact Nat.mul_le_mul_right _ hcap
          rw [Nat.add_mul] at this
          omega
        have hflat : ∀ v, v ∈ us.toList → Value.flat v = true := fun v hv => by
          obtain ⟨i, hi, he⟩ := List.getElem_of_mem hv
          simp at hi
          have hi' : i < (flats ys).length := by rw [flats_length hys]; omega
          obtain ⟨d, hd, hr⟩ := (agg_get hn').2 i (flats ys)[i] (by simp [hi'])
          have : d = v := by
            have e1 : us[i]? = some us[i] := by simp [hi]
            rw [e1] at hd; cases hd; rw [← he]; simp
          subst this
          exact hr.flat (fits_flat hf _ (List.getElem_mem hi'))
        have hrun := run_append_in (T := T) ht hcap hn g3 hfit hflat
        have hle : E.le (E.at l (zs.length + ys.length) y) := at_le' fun z hz => by
          by_cases hne : ys = []
          · subst hne; simp at hz; rw [hr] at hz; cases hz; rfl
          · rw [hnone hne] at hz; cases hz
        have hnew : OR (E.at l (zs.length + ys.length) y) (World.put w y.b (over C (0 * y.sz + zs.length * s) us.toList) t) l (.arr (zs ++ ys) s wr) := by
          have hall : ∀ v, v ∈ zs ++ ys → v.cells.length = s := fun v hv => by
            rcases List.mem_append.1 hv with hv | hv
            · exact hzs v hv
            · exact hys v hv
          refine ⟨⟨h0, by simp; omega⟩, hall, fun st' z hz hwz => ?_⟩
          by_cases hk : st' = zs.length + ys.length
          · subst hk
            rw [at_same] at hz; cases hz
            refine ⟨by simp, hysz, _, t, put_same hb, by rw [over_size]; exact g4, by rw [hysz, ← g4]; rw [Nat.add_mul, hus]; omega, fun i v hv hi j c hc => ?_⟩
            have hj : j < s := by
              have := (List.getElem?_eq_some_iff.1 hc).1
              rw [hall v (List.mem_of_getElem? hv)] at this; exact this
            rw [over_get _ _ _ _ (by simpa using hfit), hysz]
            have hfg := flats_get hall hv hj
            rw [hc, flats_append] at hfg
            have lz := flats_length (xs := zs) (sz := s) hzs
            by_cases hin : i * s + j < zs.length * s
            · rw [if_neg (by omega)]
              have hiz : i < zs.length := Nat.lt_of_mul_lt_mul_right (a := s) (by omega)
              rw [List.getElem?_append_left hiz] at hv
              obtain ⟨d, hd1, hd2⟩ := g6 i v hv hiz j c hc
              exact ⟨d, by rw [hysz] at hd1; exact hd1, hd2.mono hle⟩
            · rw [List.getElem?_append_right (by omega), lz] at hfg
              obtain ⟨d, hd1, hd2⟩ := (agg_get hn').2 _ _ hfg
              have hlt := (Array.getElem?_eq_some_iff.1 hd1).1
              rw [if_pos (by simp; omega)]
              exact ⟨d, by simpa using hd1, hd2.mono hle⟩
          · have hz' : E.ρ l st' = some z := by
              simp only [En.at] at hz
              rw [if_neg (by simp; exact hk)] at hz; exact hz
            obtain ⟨k1, k2, D, t', k3, k4, k5, k6⟩ := hst st' z hz' hwz
            refine ⟨by simp; omega, k2, ?_⟩
            by_cases hzb : z.b = y.b
            · rw [hzb] at k3
              rw [g3] at k3; cases k3
              refine ⟨_, t, by rw [hzb]; exact put_same hb, by rw [over_size]; exact k4, k5, fun i v hv hi j c hc => ?_⟩
              have hiz : i < zs.length := by omega
              rw [List.getElem?_append_left hiz] at hv
              have hj : j < s := by
                have := (List.getElem?_eq_some_iff.1 hc).1
                rw [hzs v (List.mem_of_getElem? hv)] at this; exact this
              obtain ⟨d, hd1, hd2⟩ := k6 i v hv hi j c hc
              have hm : (i + 1) * s ≤ zs.length * s := Nat.mul_le_mul_right _ (by omega)
              rw [Nat.add_mul] at hm
              rw [over_get _ _ _ _ (by simpa using hfit), k2, if_neg (by omega)]
              exact ⟨d, by rw [k2] at hd1; exact hd1, hd2.mono hle⟩
            · refine ⟨D, t', by rw [put_other hzb]; exact k3, k4, k5, fun i v hv hi j c hc => ?_⟩
              rw [List.getElem?_append_left (by omega)] at hv
              obtain ⟨d, hd1, hd2⟩ := k6 i v hv hi j c hc
              exact ⟨d, hd1, hd2.mono hle⟩
        have hch := hs.change (E' := E.at l (zs.length + ys.length) y) (w' := World.put w y.b (over C (0 * y.sz + zs.length * s) us.toList) t) hlive rfl hle (fun l' st' hl' => at_other hl') (fun st' z hz => by
            by_cases hk : st' = zs.length + ys.length
            · subst hk; rw [at_same] at hz; cases hz; exact .inl ⟨_, _, hr, rfl⟩
            · simp only [En.at] at hz; rw [if_neg (by simp; exact hk)] at hz; exact .inl ⟨_, _, hz, rfl⟩) (by rw [put_size]; exact Nat.le_refl _)
          (fun b' _ hno => put_other (fun e => hno _ _ hr e.symm)) rfl hnew
        refine ⟨_, _, _, hrun, ?_, hch.1, hch.2, by simp⟩
        have := VR.arr (E := E.at l (zs.length + ys.length) y) (l := l) (off := 0) (len := zs.length + ys.length) (cap := cap) (st := zs.length + ys.length) at_same hN hcap
        exact this
      · -- a new array
        have hne : ys ≠ [] := by rintro rfl; simp at hcap; omega
        obtain ⟨b, c, us, rfl, hn, hn'⟩ := run_firstCells (P := P) (sz := s) hs1 hx hel hys h0
        obtain ⟨b', c', us', he', ho, ho'⟩ := run_firstCells (P := P) (sz := s) hs1 (VR.arr hr hN hcc) hel0 hzs h0
        cases he'
        obtain ⟨newCap, rest, t', hnc, hrest, hrun⟩ := run_append_move (T := T) ht (by omega) hroom ho hn
        have hsz1 := (agg_get ho').1
        have hsz2 := (agg_get hn').1
        rw [flats_length hzs] at hsz1
        rw [flats_length hys] at hsz2
        have hle : E.le (E.at l (zs.length + ys.length) ⟨w.heap.size, (us' ++ us ++ rest).size, s⟩) := at_le (hnone hne)
        have hall : ∀ v, v ∈ zs ++ ys → v.cells.length = s := fun v hv => by
          rcases List.mem_append.1 hv with hv | hv
          · exact hzs v hv
          · exact hys v hv
        have hnew : OR (E.at l (zs.length + ys.length) ⟨w.heap.size, (us' ++ us ++ rest).size, s⟩) { w with drawn := w.drawn + 1, heap := w.heap.push (.cells (us' ++ us ++ rest) t' (0, 0)) } l (.arr (zs ++ ys) s wr) := by
          refine ⟨⟨h0, by simp; omega⟩, hall, fun st' z hz hwz => ?_⟩
          by_cases hk : st' = zs.length + ys.length
          · subst hk
            rw [at_same] at hz; cases hz
            exact ⟨by simp, rfl, holds_new (t := t') h0 hzs hys (ho'.mono hle) (hn'.mono hle) (by simp)⟩
          · have hz' : E.ρ l st' = some z := by
              simp only [En.at] at hz
              rw [if_neg (by simp; exact hk)] at hz; exact hz
            obtain ⟨k1, k2, D, t2, k3, k4, k5, k6⟩ := hst st' z hz' hwz
            have hzlt : z.b < w.heap.size := (Array.getElem?_eq_some_iff.1 k3).1
            refine ⟨by simp; omega, k2, D, t2, by simp only [Array.getElem?_push]; rw [if_neg (by omega)]; exact k3, k4, k5, fun i v hv hi j c hc => ?_⟩
            rw [List.getElem?_append_left (by omega)] at hv
            obtain ⟨d, hd1, hd2⟩ := k6 i v hv hi j c hc
            exact ⟨d, hd1, hd2.mono hle⟩
        have hch := hs.change (E' := E.at l (zs.length + ys.length) ⟨w.heap.size, (us' ++ us ++ rest).size, s⟩) (w' := { w with drawn := w.drawn + 1, heap := w.heap.push (.cells (us' ++ us ++ rest) t' (0, 0)) }) hlive rfl hle (fun l' st' hl' => at_other hl') (fun st' z hz => by
            by_cases hk : st' = zs.length + ys.length
            · subst hk; rw [at_same] at hz; cases hz; exact .inr ⟨Nat.le_refl _, by show w.heap.size < (w.heap.push _).size; simp, _, _, hr⟩
            · simp only [En.at] at hz; rw [if_neg (by simp; exact hk)] at hz; exact .inl ⟨_, _, hz, rfl⟩) (by simp)
          (fun b' hb' _ => by simp only [Array.getElem?_push]; rw [if_neg (by omega)]) rfl hnew
        refine ⟨_, _, _, hrun, ?_, hch.1, hch.2, by simp⟩
        have := VR.arr (E := E.at l (zs.length + ys.length) ⟨w.heap.size, (us' ++ us ++ rest).size, s⟩) (l := l) (off := 0) (len := zs.length + ys.length) (cap := newCap) (st := zs.length + ys.length) at_same (by
          simp only [Array.size_append]
          rw [← hsz1, ← hsz2, hrest, ← Nat.add_mul, ← Nat.add_mul]
          exact Nat.mul_le_mul_right _ (by omega)) hnc
        simpa using this
  · cases h
end Go.Proofs.YtbifpocccfkhhaaGreatDoor
/- Structs built, slices written out, parts, slices of slices, lengths. -/
namespace Go.Proofs.YtbifpocccfkhhaaGreatDoor
open Go

theorem run_mapM {α β : Type} {P : Program} {w : World} {f : α → Sem β} {g : α → β} {xs : Array α} (h : ∀ x, x ∈ xs.toList → (f x).run P w = .ok (g x) w) : (xs.mapM f).run P w = .ok (xs.map g) w := by
  have key : ∀ (l : List α) (acc : Array β), (∀ x, x ∈ l → (f x).run P w = .ok (g x) w) →
      (l.foldlM (fun (acc : Array β) a => do let b ← f a; pure (acc.push b)) acc).run P w = .ok (acc ++ (l.map g).toArray) w := by
    intro l
    induction l with
    | nil => intro acc _; simp
    | cons x l ih =>
      intro acc h
      simp only [List.foldlM_cons, Sem.run_bind, h x (by simp), Result.andThen, Sem.run_pure]
      rw [ih _ (fun y hy => h y (by simp [hy]))]
      simp
  rw [Array.mapM_eq_foldlM_push, ← Array.foldlM_toList, key xs.toList #[] h]
  simp only [Array.empty_append]
  congr 1
  apply Array.toList_inj.1
  simp

/-- Parts laid into the cells of a struct. -/
def buildV : V → List (Nat × Nat × V) → Option V
  | z, [] => some z
  | z, (off, n, x) :: ps => (z.upd off n x).bind fun z' => buildV z' ps

theorem foldl_over : ∀ (us : List Value) (k : Nat) (C : Array Value) (off : Nat), (us.zipIdx k).foldl (fun cs (x : Value × Nat) => cs.setIfInBounds (off + x.2) x.1) C = over C (off + k) us
  | [], _, _, _ => rfl
  | u :: us, k, C, off => by
    simp only [List.zipIdx_cons, List.foldl_cons, over]
    rw [foldl_over us (k + 1) _ off]; rfl

theorem fill_build {E : En} {place : Nat → Option (Nat × Nat)} : ∀ (ps : List (Nat × Nat × Nat × V)) (us : List (Nat × Value)) (z r : V) (C : Array Value), ps.length = us.length →
    (∀ (i : Nat) (p : Nat × Nat × Nat × V) (u : Nat × Value), ps[i]? = some p → us[i]? = some u → p.1 = u.1 ∧ place p.1 = some (p.2.1, p.2.2.1) ∧ VR E p.2.2.2 u.2) → z.isAgg = true → VR E z (.agg C) →
    buildV z (ps.map fun p => p.2) = some r → (∀ p, p ∈ ps → ¬ (p.2.1 = 0 ∧ p.2.2.1 = z.size)) → ∃ D, Instr.fill place C us = some D ∧ VR E r (.agg D)
  | [], us, z, r, C, hl, _, _, hz, h, _ => by
    have : us = [] := List.length_eq_zero_iff.1 hl.symm
    subst this
    simp only [List.map_nil, buildV] at h; cases h
    exact ⟨C, rfl, hz⟩
  | (f, off, n, x) :: ps, us, z, r, C, hl, hp, hag, hz, h, hne => by
    cases us with
    | nil => simp at hl
    | cons u us =>
      simp only [List.map_cons, buildV] at h
      cases hu : z.upd off n x with
      | none => rw [hu] at h; cases h
      | some z' =>
        rw [hu] at h
        simp only [Option.bind_some] at h
        obtain ⟨p1, p2, p3⟩ := hp 0 _ _ rfl rfl
        obtain ⟨u1, u2, u3, u4, u5⟩ := upd_spec hu
        simp only at p1 p2 p3
        obtain ⟨c1, c2⟩ := p3.cells (flat_ne_top u2)
        obtain ⟨z1, z2⟩ := hz.cells (by rintro rfl; simp [V.isAgg] at hag)
        have hC : (Value.agg C).cells = C := rfl
        rw [hC] at z1 z2
        have hus : u.2.cells.size = n := by rw [← c1]; exact u1
        have hag' : z'.isAgg = true := by
          have hne0 := hne (f, off, n, x) (by simp)
          unfold V.upd at hu
          rw [if_pos ⟨u1, u2⟩, if_neg hne0] at hu
          split at hu
          · split at hu <;> cases hu; rfl
          · cases hu
        have hz' : VR E z' (.agg (over C off u.2.cells.toList)) := by
          have : ∃ cs, z' = .agg cs := by cases z' <;> simp [V.isAgg] at hag'; exact ⟨_, rfl⟩
          obtain ⟨cs, rfl⟩ := this
          have e : (V.agg cs).cells = cs := rfl
          rw [e] at u4 u5
          refine .agg (by rw [over_size]; omega) fun j v d hv hd => ?_
          rw [over_get _ _ _ _ (by simp; omega)] at hd
          rw [u5] at hv
          simp only [Array.length_toList, hus] at hd
          by_cases hin : off ≤ j ∧ j < off + n
          · rw [if_pos hin] at hd hv
            exact c2 _ _ _ hv (by simpa using hd)
          · rw [if_neg hin] at hd hv
            exact z2 j v d hv hd
        obtain ⟨D, hD, hr⟩ := fill_build ps us z' r (over C off u.2.cells.toList) (by simpa using hl) (fun i p q hi hj => hp (i + 1) p q (by simpa using hi) (by simpa using hj)) hag' hz' h
          (fun p hp => by rw [V.size, u4]; exact hne p (by simp [hp]))
        refine ⟨D, ?_, hr⟩
        have hz3 : u.2.cells.zipIdx.foldl (fun cs (x : Value × Nat) => cs.setIfInBounds (off + x.2) x.1) C = over C off u.2.cells.toList := by
          rw [← Array.foldl_toList, Array.toList_zipIdx, foldl_over]; rfl
        obtain ⟨u0, uv⟩ := u
        simp only at p1 p2 hus hz3 hD
        subst p1
        simp only [Instr.fill, p2, hus]
        rw [if_neg (by simp; omega)]
        rw [← hD]
        congr 1

def structParts (P : Program) (t : TypeId) : Option (List (Nat × Nat)) :=
  match P.underlying t with
  | some (.struct fs) => fs.toList.mapM fun f => (P.info? f.type).map fun i => (f.offset, i.size)
  | some (.array n e) => if n ≤ 64 then (P.info? e).map fun i => (List.range n).map fun j => (j * i.size, i.size) else none
  | _ => none

theorem run_places {P : Program} {w : World} {fs : Array Field} {l : List (Nat × Nat)} (h : (fs.toList.mapM fun f => (P.info? f.type).map fun i => (f.offset, i.size)) = some l) :
    (fs.mapM fun f => do pure (f.offset, ← sizeOf f.type) : Sem (Array (Nat × Nat))).run P w = .ok l.toArray w := by
  have h1 : l = fs.toList.map fun f => (f.offset, P.cellsOf f.type) := by
    have : ∀ (fs : List Field) (l : List (Nat × Nat)), (fs.mapM fun f => (P.info? f.type).map fun i => (f.offset, i.size)) = some l → l = fs.map fun f => (f.offset, P.cellsOf f.type) := by
      intro fs
      induction fs with
      | nil => intro l h; simp at h; simp [h]
      | cons f fs ih =>
        intro l h
        simp only [List.mapM_cons, Option.bind_eq_bind] at h
        cases hi : P.info? f.type with
        | none => rw [hi] at h; simp at h
        | some i =>
          rw [hi] at h
          simp only [Option.map_some, Option.bind_some] at h
          cases hr : (fs.mapM fun f => (P.info? f.type).map fun i => (f.offset, i.size)) with
          | none => rw [hr] at h; simp at h
          | some r =>
            rw [hr] at h
            simp at h
            subst h
            simp [Program.cellsOf, hi, ih r hr]
    exact this _ _ h
  have h2 : ∀ f, f ∈ fs.toList → ∃ i, P.info? f.type = some i := by
    intro f hf
    cases hi : P.info? f.type with
    | some i => exact ⟨i, rfl⟩
    | none =>
      exfalso
      have : ∀ (fs : List Field) (l : List (Nat × Nat)), f ∈ fs → (fs.mapM fun f => (P.info? f.type).map fun i => (f.offset, i.size)) = some l → False := by
        intro fs
        induction fs with
        | nil => intro l hm; simp at hm
        | cons g fs ih =>
          intro l hm h
          simp only [List.mapM_cons, Option.bind_eq_bind] at h
          rcases List.mem_cons.1 hm with rfl | hm
          · rw [hi] at h; simp at h
          · cases hg : P.info? g.type with
            | none => rw [hg] at h; simp at h
            | some i =>
              rw [hg] at h
              simp only [Option.map_some, Option.bind_some] at h
              cases hr : (fs.mapM fun f => (P.info? f.type).map fun i => (f.offset, i.size)) with
              | none => rw [hr] at h; simp at h
              | some r => exact ih r hm hr
      exact this _ _ hf h
  rw [run_mapM (g := fun f => (f.offset, P.cellsOf f.type)) (fun f hf => by
    obtain ⟨i, hi⟩ := h2 f hf
    simp only [Sem.run_bind, run_sizeOf hi, Result.andThen, Sem.run_pure]
    simp [Program.cellsOf, hi])]
  rw [h1]
  congr 1
  apply Array.toList_inj.1
  simp

theorem sim_build {E : En} {S : St} {P : Program} {w : World} {t : TypeId} {i : TypeInfo} {zv : Value} {z r : V} {ps : List (Nat × Nat × Nat × V)} {us : Array (Nat × Value)} {l : List (Nat × Nat)} (hs : SR E S w) (hi : P.info? t = some i) (hz : i.zero = some zv)
    (hl : structParts P t = some l) (hzr : VR E z zv) (hzs : z.isAgg = true) (hlen : ps.length = us.size)
    (hp : ∀ (j : Nat) (p : Nat × Nat × Nat × V) (u : Nat × Value), ps[j]? = some p → us[j]? = some u → p.1 = u.1 ∧ l[p.1]? = some (p.2.1, p.2.2.1) ∧ VR E p.2.2.2 u.2)
    (hne : ∀ p, p ∈ ps → ¬ (p.2.1 = 0 ∧ p.2.2.1 = z.size)) (h : buildV z (ps.map fun p => p.2) = some r) :
    Sim P E S w (Instr.build t us) r S := by
  obtain ⟨C, rfl⟩ : ∃ C, zv = .agg C := by
    cases z <;> simp [V.isAgg] at hzs
    cases hzr; exact ⟨_, rfl⟩
  unfold structParts at hl
  split at hl <;> try cases hl
  case h_2 n e hu =>
    split at hl <;> try cases hl
    cases hie : P.info? e with
    | none => rw [hie] at hl; cases hl
    | some ie =>
      rw [hie] at hl
      simp only [Option.map_some, Option.some.injEq] at hl
      obtain ⟨D, hD, hr⟩ := fill_build (place := fun i => some (i * ie.size, ie.size)) ps us.toList z r C (by simpa using hlen) (fun j p u h1 h2 => by
        obtain ⟨a, b, c⟩ := hp j p u h1 (by simpa using h2)
        refine ⟨a, ?_, c⟩
        rw [← hl, List.getElem?_map, Option.map_eq_some_iff] at b
        obtain ⟨q, hq, hqe⟩ := b
        rw [List.getElem?_eq_some_iff] at hq
        obtain ⟨_, hq⟩ := hq
        rw [List.getElem_range] at hq
        subst hq
        simpa using hqe) hzs hzr h hne
      refine Sim.pure hs ?_ hr
      simp only [Instr.build, Sem.run_bind, run_zeroValue hi hz, Result.andThen, run_underlying' hu, run_sizeOf hie]
      have hC : (Value.agg C).cells = C := rfl
      rw [hC, hD]
      simp
  rename_i fs hu
  obtain ⟨D, hD, hr⟩ := fill_build (place := fun i => l[i]?) ps us.toList z r C (by simpa using hlen) (fun j p u h1 h2 => hp j p u h1 (by simpa using h2)) hzs hzr h hne
  refine Sim.pure hs ?_ hr
  simp only [Instr.build, Sem.run_bind, run_zeroValue hi hz, Result.andThen, run_underlying' hu, run_places hl]
  have e : (fun (x : Nat) => l.toArray[x]?) = fun (x : Nat) => l[x]? := by funext x; simp
  have hC : (Value.agg C).cells = C := rfl
  rw [e, hC, hD]
  simp
/-- A struct of one part. -/
theorem sim_wrap {E : En} {S : St} {P : Program} {w : World} {t : TypeId} {i : TypeInfo} {zv : Value} {n j : Nat} {x : V} {u : Value} {l : List (Nat × Nat)} (hs : SR E S w) (hi : P.info? t = some i) (hz : i.zero = some zv) (hzn : zv.cells.size = n)
    (hl : structParts P t = some l) (hj : l[j]? = some (0, n)) (hx : VR E x u) (hn : x.size = n) (hf : (x.cells.all V.flat) = true) : Sim P E S w (Instr.build t #[(j, u)]) (.agg x.cells) S := by
  obtain ⟨c1, c2⟩ := hx.cells (flat_ne_top hf)
  have hus : u.cells.size = n := by rw [← c1]; exact hn
  have hov : u.cells.zipIdx.foldl (fun cs (q : Value × Nat) => cs.setIfInBounds (0 + q.2) q.1) zv.cells = u.cells := by
    rw [← Array.foldl_toList, Array.toList_zipIdx, foldl_over]
    apply Array.ext_getElem?
    intro k
    have hlen : u.cells.toList.length = zv.cells.size := by rw [Array.length_toList, hus, hzn]
    rw [over_get _ _ _ _ (by omega)]
    split
    · simp
    · rename_i hk
      rw [Array.getElem?_eq_none (by omega), Array.getElem?_eq_none (by rw [hus, ← hzn, ← hlen]; omega)]
  have hfill : ∀ place : Nat → Option (Nat × Nat), place j = some (0, n) → Instr.fill place zv.cells [(j, u)] = some u.cells := by
    intro place hp
    simp only [Instr.fill, hp]
    rw [if_neg (by simp; omega)]
    exact congrArg some hov
  have hvr : VR E (.agg x.cells) (.agg u.cells) := .agg c1 c2
  unfold structParts at hl
  split at hl <;> try cases hl
  · rename_i fs hu
    refine Sim.pure hs ?_ hvr
    simp only [Instr.build, Sem.run_bind, run_zeroValue hi hz, Result.andThen, run_underlying' hu, run_places hl]
    rw [hfill _ (by simpa using hj)]
    simp
  · rename_i m e hu
    split at hl <;> try cases hl
    cases hie : P.info? e with
    | none => rw [hie] at hl; cases hl
    | some ie =>
      rw [hie] at hl
      simp only [Option.map_some, Option.some.injEq] at hl
      have hpj : (some (j * ie.size, ie.size) : Option (Nat × Nat)) = some (0, n) := by
        rw [← hl, List.getElem?_map, Option.map_eq_some_iff] at hj
        obtain ⟨q, hq, hqe⟩ := hj
        rw [List.getElem?_eq_some_iff] at hq
        obtain ⟨_, hq⟩ := hq
        rw [List.getElem_range] at hq
        subst hq
        simpa using hqe
      refine Sim.pure hs ?_ hvr
      simp only [Instr.build, Sem.run_bind, run_zeroValue hi hz, Result.andThen, run_underlying' hu, run_sizeOf hie]
      rw [hfill (fun i => some (i * ie.size, ie.size)) hpj]
      simp
end Go.Proofs.YtbifpocccfkhhaaGreatDoor
/- Literal slices, parts, indices, slices of slices, lengths, arithmetic. -/
namespace Go.Proofs.YtbifpocccfkhhaaGreatDoor
open Go

theorem over_append : ∀ (us vs : List Value) (C : Array Value) (o : Nat), over (over C o us) (o + us.length) vs = over C o (us ++ vs)
  | [], vs, C, o => by simp [over]
  | u :: us, vs, C, o => by
    simp only [over, List.cons_append, List.length_cons]
    rw [← over_append us vs, show o + (us.length + 1) = o + 1 + us.length by omega]

theorem fill_row {sz : Nat} : ∀ (us : List (Nat × Value)) (k : Nat) (C : Array Value), (∀ (i : Nat) (u : Nat × Value), us[i]? = some u → u.1 = k + i ∧ u.2.cells.size = sz) → (k + us.length) * sz ≤ C.size →
    Instr.fill (fun i => some (i * sz, sz)) C us = some (over C (k * sz) (us.flatMap fun u => u.2.cells.toList))
  | [], k, C, _, _ => rfl
  | u :: us, k, C, h, hs => by
    obtain ⟨u0, uv⟩ := u
    obtain ⟨h1, h2⟩ := h 0 _ rfl
    simp only [Nat.add_zero] at h1 h2
    subst h1
    have hm : (u0 + (us.length + 1)) * sz = u0 * sz + sz + us.length * sz := by rw [Nat.add_mul, Nat.add_mul, Nat.one_mul]; omega
    rw [List.length_cons, hm] at hs
    have hz3 : uv.cells.zipIdx.foldl (fun cs (x : Value × Nat) => cs.setIfInBounds (u0 * sz + x.2) x.1) C = over C (u0 * sz) uv.cells.toList := by
      rw [← Array.foldl_toList, Array.toList_zipIdx, foldl_over]; rfl
    simp only [Instr.fill, h2]
    rw [if_neg (by simp; omega)]
    have hz4 : (uv.cells.zipIdx.foldl (fun (cs : Array Value) (x : Value × Nat) => match x with | (c, j) => cs.setIfInBounds (u0 * sz + j) c) C) = over C (u0 * sz) uv.cells.toList := hz3
    rw [hz4, fill_row us (u0 + 1) _ (fun i u hu => by
      obtain ⟨a, b⟩ := h (i + 1) u (by simpa using hu)
      exact ⟨by omega, b⟩) (by rw [over_size, Nat.add_mul, Nat.add_mul, Nat.one_mul]; omega)]
    simp only [List.flatMap_cons]
    rw [← over_append, Array.length_toList, h2, show (u0 + 1) * sz = u0 * sz + sz by rw [Nat.add_mul]; omega]

theorem over_all {C : Array Value} {us : List Value} (h : us.length = C.size) : over C 0 us = us.toArray := by
  apply Array.ext_getElem?
  intro i
  rw [over_get _ _ _ _ (by omega)]
  by_cases hi : i < us.length
  · rw [if_pos ⟨by omega, by omega⟩]; simp
  · rw [if_neg (by omega), Array.getElem?_eq_none (by omega), Array.getElem?_eq_none (by simp; omega)]

structure SlTy (P : Program) (t : TypeId) (sz : Nat) : Prop where
  h : ∃ e i z, P.underlying t = some (.slice e) ∧ P.info? e = some i ∧ i.size = sz ∧ i.zero = some z

def slTy (P : Program) (t : TypeId) : Option Nat :=
  match P.underlying t with
  | some (.slice e) => match P.info? e with
    | some i => if i.zero.isSome = true then some i.size else none
    | none => none
  | _ => none
theorem slTy_spec {P : Program} {t : TypeId} {sz : Nat} (h : slTy P t = some sz) : SlTy P t sz := by
  unfold slTy at h
  split at h <;> try cases h
  rename_i e h1
  split at h <;> try cases h
  rename_i i h2
  split at h <;> try cases h
  rename_i h3
  obtain ⟨z, hz⟩ := Option.isSome_iff_exists.1 h3
  exact ⟨e, i, z, h1, h2, rfl, hz⟩

theorem flat_agg {E : En} {sz : Nat} : ∀ (xs : List V) (us : List Value), xs.length = us.length → (∀ (i : Nat) (x : V) (u : Value), xs[i]? = some x → us[i]? = some u → VR E x u) → fits sz xs = true →
    VR E (.agg (flats xs)) (.agg (us.flatMap fun u => u.cells.toList).toArray) ∧ (∀ u, u ∈ us → u.cells.size = sz)
  | [], us, hl, _, _ => by
    have : us = [] := List.length_eq_zero_iff.1 hl.symm
    subst this
    exact ⟨.agg rfl fun i v u h _ => by simp [flats] at h, by simp⟩
  | x :: xs, us, hl, h, hf => by
    cases us with
    | nil => simp at hl
    | cons u us =>
      have hxu := h 0 x u rfl rfl
      simp only [fits, List.all_cons, Bool.and_eq_true, beq_iff_eq] at hf
      obtain ⟨⟨f1, f2⟩, f3⟩ := hf
      obtain ⟨i1, i2⟩ := flat_agg xs us (by simpa using hl) (fun i y v hy hv => h (i + 1) y v (by simpa using hy) (by simpa using hv)) f3
      obtain ⟨c1, c2⟩ := hxu.cells (flat_ne_top f2)
      obtain ⟨g1, g2⟩ := agg_get i1
      have hus : u.cells.size = sz := by rw [← c1]; exact f1
      refine ⟨?_, fun v hv => ?_⟩
      · refine .agg (by simp only [flats, List.flatMap_cons, List.length_append, List.size_toArray, Array.length_toList] at *; omega) fun i v d hv hd => ?_
        simp only [flats, List.flatMap_cons] at hv
        simp only [List.flatMap_cons, List.getElem?_toArray] at hd
        by_cases hi : i < x.cells.length
        · rw [List.getElem?_append_left hi] at hv
          rw [List.getElem?_append_left (by simp; omega)] at hd
          exact c2 i v d hv (by simpa using hd)
        · rw [List.getElem?_append_right (by omega)] at hv
          rw [List.getElem?_append_right (by simp; omega)] at hd
          obtain ⟨e, he, hr⟩ := g2 _ v hv
          simp only [List.getElem?_toArray] at he
          rw [Array.length_toList, ← c1] at hd
          rw [hd] at he; cases he; exact hr
      · rcases List.mem_cons.1 hv with rfl | hv
        · exact hus
        · exact i2 v hv

theorem sim_bslice {E : En} {S : St} {P : Program} {w : World} {t : TypeId} {sz : Nat} {xs : List V} {us : Array (Nat × Value)} (hs : SR E S w) (ht : SlTy P t sz) (hl : xs.length = us.size)
    (h : ∀ (i : Nat) (x : V) (u : Nat × Value), xs[i]? = some x → us[i]? = some u → u.1 = i ∧ VR E x u.2) (hf : fits sz xs = true) (hroom : xs.length * sz ≤ 2 ^ 24) :
    Sim P E S w (Instr.buildSlice t xs.length us) (.sl true xs) S := by
  obtain ⟨e, i, z, t1, t2, rfl, t3⟩ := ht.h
  obtain ⟨f1, f2⟩ := flat_agg (E := E) xs (us.toList.map fun u => u.2) (by simp; exact hl) (fun j x u hx hu => by
    simp only [List.getElem?_map, Option.map_eq_some_iff] at hu
    obtain ⟨u', hu', rfl⟩ := hu
    exact (h j x u' hx (by simpa using hu')).2) hf
  obtain ⟨zero, hzero⟩ : ∃ y, y = (if xs.length * i.size = 0 then (#[] : Array Value) else z.cells) := ⟨_, rfl⟩
  let C : Array Value := (Array.range (xs.length * i.size)).map (fun k => zero[k % zero.size]!)
  have hC : C.size = xs.length * i.size := by simp [C]
  have hfill : Instr.fill (fun k => some (k * i.size, i.size)) C us.toList = some (us.toList.flatMap fun u => u.2.cells.toList).toArray := by
    rw [fill_row us.toList 0 C (fun j u hu => by
      have hj : j < xs.length := by have := (List.getElem?_eq_some_iff.1 hu).1; simp at this; omega
      have := (h j xs[j] u (by simp) (by simpa using hu)).1
      exact ⟨by omega, f2 _ (List.mem_map.2 ⟨u, List.mem_of_getElem? hu, rfl⟩)⟩) (by rw [hC]; simp; rw [hl]; exact Nat.le_refl _), Nat.zero_mul, over_all]
    rw [hC]
    have g := (agg_get f1).1
    rw [flats_length (fits_size hf)] at g
    rw [g]
    simp [List.flatMap_map]
  have hD : (us.toList.flatMap fun u => u.2.cells.toList).toArray = ((us.toList.map fun u => u.2).flatMap fun u => u.cells.toList).toArray := by simp [List.flatMap_map]
  rw [hD] at hfill
  obtain ⟨s1, s2, s3⟩ := hs.lay ((us.toList.map fun u => u.2).flatMap fun u => u.cells.toList).toArray e
  refine ⟨.slice (some ⟨w.heap.size, 0, none⟩) xs.length xs.length, _, _, ?_, ?_, s1, s3, Nat.le_refl _⟩
  · simp only [Instr.buildSlice, Sem.run_bind, run_underlying' t1, run_sizeOf t2, Result.andThen]
    rw [if_neg (by omega)]
    have hfill' : Instr.fill (fun k => some (k * i.size, i.size)) (Array.map (fun x => zero[x % zero.size]!) (Array.range (xs.length * i.size))) us.toList = _ := hfill
    by_cases h0 : xs.length * i.size = 0
    · rw [if_pos h0] at hzero
      subst hzero
      rw [if_pos h0]
      simp only [Sem.run_bind, Sem.run_pure, Result.andThen, hfill', run_newRow]
    · rw [if_neg h0] at hzero
      subst hzero
      rw [if_neg h0]
      simp only [Sem.run_bind, Sem.run_pure, Result.andThen, run_zeroValue t2 t3, hfill', run_newRow]
  · obtain ⟨g1, g2⟩ := agg_get f1
    have hlen := flats_length (fits_size hf)
    refine .sl (sz := i.size) (Nat.le_refl _) (fun _ => rfl) (fits_size hf) (fun k j hk hj => ?_) (fun k v j c' c hv hc hi => ?_)
    · simp only [En.lay, if_true, Nat.zero_add]
      have : k * i.size + j < (flats xs).length := by
        rw [hlen]
        have : (k + 1) * i.size ≤ xs.length * i.size := Nat.mul_le_mul_right _ hk
        rw [Nat.add_mul] at this; omega
      obtain ⟨d, hd, _⟩ := g2 (k * i.size + j) _ (List.getElem?_eq_getElem this)
      rw [hd]; rfl
    · simp only [En.lay, if_true, Nat.zero_add] at hi
      have hj : j < i.size := by
        have := (List.getElem?_eq_some_iff.1 hc).1
        rw [show v.cells.length = i.size from fits_size hf v (List.mem_of_getElem? hv)] at this; exact this
      have hg := flats_get (fits_size hf) hv hj
      rw [hc] at hg
      obtain ⟨d, hd, hr⟩ := g2 _ _ hg
      rw [hd] at hi; cases hi
      exact hr.mono s2

/-! Parts. -/
theorem run_part {E : En} {P : Program} {w : World} {v r : V} {cs : Array Value} {t : TypeId} {k : Option Nat} {off : Nat} (hk : loadKind P t = some k) (hv : VR E v (.agg cs)) (hnt : v ≠ .top) (hr : v.part off k = some r) :
    ∃ u, (part t cs off).run P w = .ok u w ∧ VR E r u := by
  obtain ⟨c1, c2⟩ := hv.cells hnt
  have hcs : (Value.agg cs).cells = cs := rfl
  rw [hcs] at c1 c2
  unfold loadKind at hk
  have scalar : ∀ d, P.underlying t = some d → (∀ fs, d ≠ .struct fs) → (∀ n e, d ≠ .array n e) → k = none → ∃ u, (part t cs off).run P w = .ok u w ∧ VR E r u := by
    intro d hd h1 h2 hk
    subst hk
    simp only [V.part] at hr
    have ho := (List.getElem?_eq_some_iff.1 hr).1
    have this : (isAgg t).run P w = .ok false w := by
      simp only [isAgg, Sem.run_bind, run_underlying' hd, Result.andThen]
      cases d <;> first | rfl | exact absurd rfl (h1 _) | exact absurd rfl (h2 _ _)
    have hco : cs[off]? = some (cs[off]'(by omega)) := by simp
    refine ⟨_, ?_, c2 off r _ hr hco⟩
    simp only [part, Sem.run_bind, this, Result.andThen, Bool.false_eq_true, if_false, hco, Sem.run_pure]
  have agg : ∀ d, P.underlying t = some d → (∃ fs, d = .struct fs) ∨ (∃ n e, d = .array n e) → ((P.info? t).map fun i => some i.size) = some k → ∃ u, (part t cs off).run P w = .ok u w ∧ VR E r u := by
    intro d hd h1 hk
    cases hi : P.info? t with
    | none => rw [hi] at hk; cases hk
    | some i =>
      rw [hi] at hk; cases hk
      have this : (isAgg t).run P w = .ok true w := by
        simp only [isAgg, Sem.run_bind, run_underlying' hd, Result.andThen]
        rcases h1 with ⟨fs, rfl⟩ | ⟨n, e, rfl⟩ <;> rfl
      have hrun : (part t cs off).run P w = .ok (.agg (cs.extract off (off + i.size))) w := by
        simp only [part, Sem.run_bind, this, Result.andThen, if_true, run_sizeOf hi, Sem.run_pure]
      refine ⟨_, hrun, ?_⟩
      simp only [V.part] at hr
      split at hr
      · rename_i hc
        obtain ⟨rfl, h2, ha⟩ := hc
        cases hr
        have : cs.extract 0 (0 + i.size) = cs := by
          rw [h2, V.size, c1]; simp
        rw [this]; exact hv
      · split at hr
        · rename_i ds _
          split at hr
          · rename_i hle
            cases hr
            have hds : (V.agg ds).cells = ds := rfl
            rw [hds] at c1 c2
            refine .agg (by simp; omega) fun j x u hx hu => ?_
            have hj : j < i.size := by
              have := (List.getElem?_eq_some_iff.1 hx).1
              simp at this; omega
            rw [List.getElem?_take_of_lt hj, List.getElem?_drop] at hx
            rw [Array.getElem?_extract] at hu
            split at hu
            · exact c2 _ x u hx hu
            · cases hu
          · cases hr
        · cases hr
  cases hd : P.underlying t with
  | none => rw [hd] at hk; cases hk
  | some d =>
    rw [hd] at hk
    cases d <;> first
      | exact agg _ hd (.inl ⟨_, rfl⟩) hk
      | exact agg _ hd (.inr ⟨_, _, rfl⟩) hk
      | (cases hk; exact scalar _ hd (fun _ => by simp) (fun _ _ => by simp) rfl)

def fieldPart (P : Program) (t : TypeId) (f : Nat) : Option (Nat × Option Nat) :=
  match P.underlying t with
  | some (.struct fs) => match fs[f]? with
    | some x => (loadKind P x.type).map fun k => (x.offset, k)
    | none => none
  | _ => none

theorem sim_field {E : En} {S : St} {P : Program} {w : World} {v r : V} {u : Value} {t : TypeId} {f off : Nat} {k : Option Nat} (hs : SR E S w) (hv : VR E v u) (ha : v.isAgg = true) (hf : fieldPart P t f = some (off, k)) (hr : v.part off k = some r) :
    Sim P E S w (Instr.field t u f) r S := by
  unfold fieldPart at hf
  split at hf <;> try cases hf
  rename_i fs hu
  split at hf <;> try cases hf
  rename_i x hx
  cases hk : loadKind P x.type with
  | none => rw [hk] at hf; cases hf
  | some k' =>
    rw [hk] at hf; cases hf
    have : ∃ cs, u = .agg cs := by
      cases v <;> simp [V.isAgg] at ha
      cases hv; exact ⟨_, rfl⟩
    obtain ⟨cs, rfl⟩ := this
    obtain ⟨d, hd, hr⟩ := run_part (P := P) (w := w) hk hv (by rintro rfl; simp [V.isAgg] at ha) hr
    refine Sim.pure hs ?_ hr
    simp only [Instr.field, Sem.run_bind, run_underlying' hu, Result.andThen, hx, asAgg, Sem.run_pure, hd]

/-- An element of an array's value. -/
theorem sim_ixa {E : En} {S : St} {P : Program} {w : World} {v r : V} {u : Value} {t e : TypeId} {ei : TypeInfo} {n : Nat} {ix : Int} {kd : IntKind} {k : Option Nat} (hs : SR E S w) (hv : VR E v u) (ha : v.isAgg = true) (hu : P.underlying t = some (.array n e)) (he : P.info? e = some ei) (hk : loadKind P e = some k)
    (h0 : 0 ≤ ix ∧ ix < n) (hr : v.part (ix.toNat * ei.size) k = some r) : Sim P E S w (Instr.index t u (.int kd ix)) r S := by
  have : ∃ cs, u = .agg cs := by
    cases v <;> simp [V.isAgg] at ha
    cases hv; exact ⟨_, rfl⟩
  obtain ⟨cs, rfl⟩ := this
  obtain ⟨d, hd, hr⟩ := run_part (P := P) (w := w) hk hv (by rintro rfl; simp [V.isAgg] at ha) hr
  refine Sim.pure hs ?_ hr
  simp only [Instr.index, asIntOf, Sem.run_bind, Sem.run_pure, run_underlying' hu, Result.andThen]
  rw [if_pos h0]
  simp only [Sem.run_bind, run_sizeOf he, Result.andThen, hd]

theorem sim_extract {E : En} {S : St} {P : Program} {w : World} {vs : List V} {r : V} {u : Value} {k : Nat} (hs : SR E S w) (hv : VR E (.tup vs) u) (hr : vs[k]? = some r) : Sim P E S w (Instr.extract u k) r S := by
  cases hv with
  | tup h g =>
    rename_i us
    have hk := (List.getElem?_eq_some_iff.1 hr).1
    have hus : us[k]? = some (us[k]'(by omega)) := by simp
    exact Sim.pure hs (by simp [Instr.extract, hus]) (g k r _ hr hus)
end Go.Proofs.YtbifpocccfkhhaaGreatDoor
/- Indices, slices of slices, lengths, arithmetic, comparisons. -/
namespace Go.Proofs.YtbifpocccfkhhaaGreatDoor
open Go

/-- A byte of a string. -/
def idxV (s : ByteArray) (ix : Int) : Option V := if 0 ≤ ix then (s[ix.toNat]?).map fun b => .int .u8 b.toNat else none

theorem sim_idx {E : En} {S : St} {P : Program} {w : World} {s : ByteArray} {ix : Int} {k : IntKind} {t : TypeId} {r : V} (hs : SR E S w) (ht : P.underlying t = some .string) (h : idxV s ix = some r) : Sim P E S w (Instr.index t (.string s) (.int k ix)) r S := by
  unfold idxV at h
  split at h <;> try cases h
  rename_i h0
  cases hb : s[ix.toNat]? with
  | none => rw [hb] at h; cases h
  | some b =>
    rw [hb] at h; cases h
    refine Sim.pure hs ?_ (.int _ _)
    simp [Instr.index, asIntOf, Sem.run_bind, Result.andThen, run_underlying' ht, h0, hb]

/-- A slice of a slice, of a string. -/
def sliceS (S : St) (sz : Nat) (d : V) (lo hi : Option Int) : Option V :=
  match d with
  | .str s => if 0 ≤ lo.getD 0 ∧ lo.getD 0 ≤ hi.getD s.size ∧ hi.getD s.size ≤ s.size then some (.str (s.extract (lo.getD 0).toNat (hi.getD s.size).toNat)) else none
  | .sl x xs => if 0 ≤ lo.getD 0 ∧ lo.getD 0 ≤ hi.getD xs.length ∧ hi.getD xs.length ≤ xs.length ∧ (xs.all fun v => v.size == sz) = true then
      some (.sl (x && decide (hi.getD xs.length = xs.length)) ((xs.take (hi.getD xs.length).toNat).drop (lo.getD 0).toNat)) else none
  | .arr l off len st => if 0 ≤ lo.getD 0 ∧ lo.getD 0 ≤ hi.getD len ∧ hi.getD len ≤ len then
      if lo.getD 0 = 0 then some (.arr l off (hi.getD len).toNat st) else if lo.getD 0 = hi.getD len then some (.sl false []) else match S[l]? with
        | some (.arr _ s wr) => if wr ≤ st ∧ s = sz then some (.arr l (off + (lo.getD 0).toNat) ((hi.getD len).toNat - (lo.getD 0).toNat) st) else none
        | _ => none
    else none
  | _ => none

theorem run_bounds {P : Program} {w : World} {b : Bool} {len cap : Nat} {lo hi : Option Int} {k k' : IntKind} (h0 : 0 ≤ lo.getD 0) (h1 : lo.getD 0 ≤ hi.getD len) (h2 : hi.getD len ≤ len) (hc : len ≤ cap) :
    (Instr.sliceBounds b len cap (lo.map (.int k)) (hi.map (.int k')) none).run P w = .ok ((lo.getD 0).toNat, (hi.getD len).toNat, cap) w := by
  cases lo <;> cases hi <;> simp only [Option.getD_none, Option.getD_some] at h0 h1 h2 <;> simp only [Instr.sliceBounds, Instr.sliceBound, asIntOf, Option.map_some, Option.map_none, Option.isSome_none, Option.getD_none, Option.getD_some, Sem.run_bind, Sem.run_pure, Result.andThen, Bool.false_eq_true, if_false]
  · simp
  · rw [if_pos ⟨by omega, by omega⟩]; simp [Result.andThen]
  · rw [if_pos ⟨by omega, by omega⟩]; simp [Result.andThen]
  · rw [if_pos ⟨by omega, by omega⟩]
    simp only [Sem.run_bind, Sem.run_pure, Result.andThen]
    rw [if_pos ⟨by omega, by omega⟩]; simp [Result.andThen]

theorem sim_sliceStr {E : En} {S : St} {P : Program} {w : World} {s : ByteArray} {lo hi : Option Int} {k k' : IntKind} {t : TypeId} {r : V} {sz : Nat} (hs : SR E S w) (ht : P.underlying t = some .string) (h : sliceS S sz (.str s) lo hi = some r) :
    Sim P E S w (Instr.sliceAt t (.string s) (lo.map (.int k)) (hi.map (.int k')) none) r S := by
  simp only [sliceS] at h
  split at h <;> try cases h
  rename_i hc
  obtain ⟨h0, h1, h2⟩ := hc
  refine Sim.pure hs ?_ (.str _)
  have := run_bounds (P := P) (w := w) (b := false) (k := k) (k' := k') h0 h1 h2 (Nat.le_refl s.size)
  simp only [Instr.sliceAt, Sem.run_bind, run_underlying' ht, Result.andThen, Instr.slice]
  simp [Sem.run_bind, Result.andThen, this]

theorem sim_slice {E : En} {S : St} {P : Program} {w : World} {d r : V} {u : Value} {lo hi : Option Int} {k k' : IntKind} {t : TypeId} {sz : Nat} (hs : SR E S w) (ht : elemSize P t = some sz) (hd : VR E d u) (h : sliceS S sz d lo hi = some r) (hn : ∀ s, d ≠ .str s) :
    Sim P E S w (Instr.sliceAt t u (lo.map (.int k)) (hi.map (.int k')) none) r S := by
  unfold elemSize at ht
  split at ht <;> try cases ht
  rename_i e hu
  cases hi' : P.info? e with
  | none => rw [hi'] at ht; cases ht
  | some i =>
    rw [hi'] at ht; cases ht
    have run : ∀ (a : Option Addr) (len cap : Nat), 0 ≤ lo.getD 0 → lo.getD 0 ≤ hi.getD len → hi.getD len ≤ len → len ≤ cap →
        (Instr.sliceAt t (.slice a len cap) (lo.map (.int k)) (hi.map (.int k')) none).run P w =
          .ok (.slice (if cap = (lo.getD 0).toNat then a else a.map (·.add ((lo.getD 0).toNat * i.size))) ((hi.getD len).toNat - (lo.getD 0).toNat) (cap - (lo.getD 0).toNat)) w := by
      intro a len cap h0 h1 h2 hc
      have := run_bounds (P := P) (w := w) (b := true) (k := k) (k' := k') h0 h1 h2 hc
      simp only [Instr.sliceAt, Sem.run_bind, run_underlying' hu, Result.andThen, Instr.slice]
      simp [Sem.run_bind, Result.andThen, this, run_sizeOf hi', run_underlying' hu]
    have emp : ∀ (f : Bool) (b o cap : Nat), (f = true → cap = 0) → VR E (.sl f []) (.slice (some ⟨b, o, none⟩) 0 cap) := fun f b o cap hc =>
      .sl (sz := 0) (Nat.zero_le _) hc (fun v hv => by simp at hv) (fun i j hi => by simp at hi) (fun i v j c' c hv => by simp at hv)
    cases hd with
    | slnil x =>
      simp only [sliceS, List.length_nil] at h
      split at h <;> try cases h
      rename_i hc
      obtain ⟨h0, h1, h2, _⟩ := hc
      have hl : lo.getD 0 = 0 := by simp at h1 h2; omega
      have hh : hi.getD 0 = 0 := by simp at h1 h2; omega
      refine Sim.pure hs (run none 0 0 h0 (by simpa using h1) (by simpa using h2) (Nat.le_refl _)) ?_
      simp [hl, hh]
      exact .slnil _
    | slz x a =>
      simp only [sliceS, List.length_nil] at h
      split at h <;> try cases h
      rename_i hc
      obtain ⟨h0, h1, h2, _⟩ := hc
      have hl : lo.getD 0 = 0 := by simp at h1 h2; omega
      have hh : hi.getD 0 = 0 := by simp at h1 h2; omega
      refine Sim.pure hs (run (some a) 0 0 h0 (by simpa using h1) (by simpa using h2) (Nat.le_refl _)) ?_
      simp [hl, hh]
      exact .slz _ _
    | sl hcap hx hss hI hvv =>
      rename_i x xs b o cap sz'
      simp only [sliceS] at h
      split at h <;> try cases h
      rename_i hc
      obtain ⟨h0, h1, h2, h3⟩ := hc
      refine Sim.pure hs (run _ _ _ h0 h1 h2 hcap) ?_
      generalize hL : (lo.getD 0).toNat = L
      generalize hH : (hi.getD (xs.length : Int)).toNat = H
      have hLH : L ≤ H := by omega
      have hHl : H ≤ xs.length := by omega
      have hlen : ((xs.take H).drop L).length = H - L := by simp; omega
      have hfl : (x && decide (hi.getD (xs.length : Int) = xs.length)) = true → cap - L = H - L := fun hf => by
        simp only [Bool.and_eq_true, decide_eq_true_eq] at hf
        have := hx hf.1
        omega
      by_cases hz : H - L = 0
      · have : (xs.take H).drop L = [] := List.length_eq_zero_iff.1 (by rw [hlen]; exact hz)
        rw [this, hz]
        split
        · exact emp _ _ _ _ (fun hf => by rw [hfl hf]; exact hz)
        · simp only [Option.map_some, add_none]
          exact emp _ _ _ _ (fun hf => by rw [hfl hf]; exact hz)
      · have hsz : i.size = sz' := by
          have hm : xs[0]'(by omega) ∈ xs := List.getElem_mem _
          simp only [List.all_eq_true, beq_iff_eq] at h3
          rw [← h3 _ hm]; exact hss _ hm
        rw [if_neg (by omega)]
        simp only [Option.map_some, add_none]
        have hmem : ∀ v, v ∈ (xs.take H).drop L → v ∈ xs := fun v hv => List.mem_of_mem_take (List.mem_of_mem_drop hv)
        have hget : ∀ (k : Nat) (v : V), ((xs.take H).drop L)[k]? = some v → xs[L + k]? = some v := fun k v hv => by
          rw [List.getElem?_drop] at hv
          rw [List.getElem?_take] at hv
          split at hv
          · exact hv
          · cases hv
        have := VR.sl (E := E) (x := (x && decide (hi.getD (xs.length : Int) = xs.length))) (xs := (xs.take H).drop L) (b := b) (o := o + L * i.size) (cap := cap - L) (sz := sz') (by rw [hlen]; omega) (fun hf => by rw [hlen]; exact hfl hf) (fun v hv => hss v (hmem v hv))
          (fun k j hk hj => by
            have := hI (L + k) j (by rw [hlen] at hk; omega) hj
            rw [Nat.add_mul] at this
            rw [hsz, show o + L * sz' + k * sz' + j = o + (L * sz' + k * sz') + j by omega]; exact this)
          (fun k v j c' c hv hc hi'' => hvv (L + k) v j c' c (hget k v hv) hc (by
            rw [Nat.add_mul]
            rw [hsz, show o + L * sz' + k * sz' + j = o + (L * sz' + k * sz') + j by omega] at hi''; exact hi''))
        rw [hlen] at this
        exact this
    | arr hr hN hcc =>
      rename_i l off len cap st x
      simp only [sliceS] at h
      split at h <;> try cases h
      rename_i hc
      obtain ⟨h0, h1, h2⟩ := hc
      split at h
      · rename_i hz
        cases h
        refine Sim.pure hs (run _ _ _ h0 h1 h2 hcc) ?_
        have := VR.arr (E := E) (l := l) (off := off) (len := (hi.getD (len : Int)).toNat) (cap := cap) (st := st) hr hN (by omega)
        simpa [hz, add_none] using this
      · rename_i hz
        split at h
        · rename_i he
          cases h
          refine Sim.pure hs (run _ _ _ h0 h1 h2 hcc) ?_
          rw [← he, Nat.sub_self]
          split
          · exact emp _ _ _ _ (fun hf => by cases hf)
          · simp only [Option.map_some, add_none]
            exact emp _ _ _ _ (fun hf => by cases hf)
        · rename_i he
          split at h <;> try cases h
          rename_i ys s wr hob
          split at h <;> try cases h
          rename_i hc'
          obtain ⟨c1, c2⟩ := hc'
          have hsz := ((hs.obs l _ hob).2.2 st x hr c1).2.1
          refine Sim.pure hs (run _ _ _ h0 h1 h2 hcc) ?_
          rw [if_neg (by omega)]
          simp only [Option.map_some, add_none]
          have := VR.arr (E := E) (l := l) (off := off + (lo.getD 0).toNat) (len := (hi.getD (len : Int)).toNat - (lo.getD 0).toNat) (cap := cap - (lo.getD 0).toNat) (st := st) hr
            (by rw [show off + (lo.getD 0).toNat + (cap - (lo.getD 0).toNat) = off + cap by omega]; exact hN) (by omega)
          rw [Nat.add_mul] at this
          rw [← c2, ← hsz]; exact this
    | str s => exact absurd rfl (hn s)
    | _ => simp [sliceS] at h
end Go.Proofs.YtbifpocccfkhhaaGreatDoor
/- Arithmetic and comparisons. -/
namespace Go.Proofs.YtbifpocccfkhhaaGreatDoor
open Go

def bits (op : BinOp) (k : IntKind) (x y : Int) : Option Int :=
  let a := BitVec.ofInt k.bits x
  let b := BitVec.ofInt k.bits y
  match op with
  | .and => some (k.wrap (a &&& b).toNat)
  | .or => some (k.wrap (a ||| b).toNat)
  | .xor => some (k.wrap (a ^^^ b).toNat)
  | .andNot => some (k.wrap (a &&& ~~~b).toNat)
  | _ => none

def intV (op : BinOp) (k : IntKind) (a b : Int) : Option V :=
  match op with
  | .add => some (.int k (k.wrap (a + b)))
  | .sub => some (.int k (k.wrap (a - b)))
  | .mul => some (.int k (k.wrap (a * b)))
  | .quo => if b = 0 then none else some (.int k (k.wrap (a.tdiv b)))
  | .rem => if b = 0 then none else some (.int k (a.tmod b))
  | .eql => some (.bool (decide (a = b)))
  | .neq => some (.bool (!decide (a = b)))
  | .lss => some (.bool (decide (a < b)))
  | .leq => some (.bool (decide (a ≤ b)))
  | .gtr => some (.bool (decide (b < a)))
  | .geq => some (.bool (decide (b ≤ a)))
  | .and | .or | .xor | .andNot => (bits op k a b).map (.int k)
  | _ => none

def strLt (x y : ByteArray) : Bool := Op.bytesLess x.toList y.toList
def strEq (x y : ByteArray) : Bool := x.toList == y.toList

def strV (op : BinOp) (x y : ByteArray) : Option V :=
  match op with
  | .add => if ((x.size + y.size : Nat) : Int) ≤ IntKind.i64.max then some (.str (x ++ y)) else none
  | .eql => some (.bool (strEq x y))
  | .neq => some (.bool (!strEq x y))
  | .lss => some (.bool (strLt x y))
  | .leq => some (.bool (strLt x y || strEq x y))
  | .gtr => some (.bool (!(strLt x y || strEq x y)))
  | .geq => some (.bool (!strLt x y))
  | _ => none

def shV (op : BinOp) (k : IntKind) (a b : Int) : Option V :=
  match op with
  | .shl => if b < 0 then none else some (.int k (k.wrap (a * 2 ^ min b.toNat k.bits)))
  | .shr => if b < 0 then none else some (.int k (a.fdiv (2 ^ min b.toNat k.bits)))
  | _ => none

def binV (op : BinOp) (x y : V) : Option V :=
  match x, y with
  | .int k a, .int k' b => if op = .shl ∨ op = .shr then shV op k a b else if k = k' then intV op k a b else none
  | .str a, .str b => strV op a b
  | _, _ => none

theorem guard_plain {op : BinOp} {t : TypeId} {x y : Operand} {a b : Value} {P : Program} {w : World} (h1 : ¬ (a = .nilIface ∧ b = .nilIface)) (h2 : ∀ c d, ¬ (a = .agg c ∧ b = .agg d)) : (eqGuard op t x y a b).run P w = .ok () w := by
  unfold eqGuard
  cases op <;> first
    | rfl
    | (cases a <;> first
        | rfl
        | (cases b <;> first | rfl | exact absurd ⟨rfl, rfl⟩ h1)
        | (cases b <;> first | rfl | exact absurd ⟨rfl, rfl⟩ (h2 _ _)))

theorem run_intV {P : Program} {w : World} {op : BinOp} {k : IntKind} {a b : Int} {r : V} {E : En} (hop : op ≠ .shl ∧ op ≠ .shr) (h : intV op k a b = some r) (t : TypeId) : ∃ u, (binOp op t (.int k a) (.int k b)).run P w = .ok u w ∧ VR E r u := by
  cases op <;> simp only [intV, bits, Option.map_some] at h <;> first
    | (cases h; refine ⟨.int k _, ?_, .int _ _⟩; simp only [binOp, ne_eq, not_true_eq_false, if_false]; rfl)
    | (cases h; refine ⟨.bool _, ?_, .bool _⟩; simp [binOp, Op.intCmp]; try rfl)
    | (split at h
       · cases h
       · rename_i hz
         cases h
         exact ⟨_, by simp [binOp, Op.intDiv, hz], .int _ _⟩)
    | (cases h; done)
    | (exact absurd rfl hop.1)
    | (exact absurd rfl hop.2)

theorem sim_bin {E : En} {S : St} {P : Program} {w : World} {op : BinOp} {t : TypeId} {ox oy : Operand} {x y r : V} {u v : Value} (hs : SR E S w) (hx : VR E x u) (hy : VR E y v) (h : binV op x y = some r) :
    Sim P E S w (do eqGuard op t ox oy u v; binOp op t u v) r S := by
  unfold binV at h
  split at h
  · rename_i k a k' b
    cases hx; cases hy
    have hg : (eqGuard op t ox oy (.int k a) (.int k' b)).run P w = .ok () w := guard_plain (by simp) (by simp)
    split at h
    · rename_i hop
      unfold shV at h
      rcases hop with rfl | rfl <;> simp only at h <;> split at h <;> cases h
      · rename_i hb
        exact Sim.pure hs (by simp [Sem.run_bind, hg, Result.andThen, binOp, Op.shift, hb]) (.int _ _)
      · rename_i hb
        exact Sim.pure hs (by simp [Sem.run_bind, hg, Result.andThen, binOp, Op.shift, hb]) (.int _ _)
    · rename_i hop
      split at h <;> try cases h
      rename_i hk
      subst hk
      obtain ⟨u, hu, hr⟩ := run_intV (P := P) (w := w) (E := E) ⟨fun e => hop (.inl e), fun e => hop (.inr e)⟩ h t
      exact Sim.pure hs (by simp only [Sem.run_bind, hg, Result.andThen]; exact hu) hr
  · rename_i a b
    cases hx; cases hy
    have hg : (eqGuard op t ox oy (.string a) (.string b)).run P w = .ok () w := guard_plain (by simp) (by simp)
    have hrun : ∀ u, (Op.stringOp op a b).run P w = .ok u w → (do eqGuard op t ox oy (.string a) (.string b); binOp op t (.string a) (.string b) : Sem Value).run P w = .ok u w := by
      intro u hu
      simp only [Sem.run_bind, hg, Result.andThen]
      cases op <;> exact hu
    cases op <;> simp only [strV] at h <;> first
      | (cases h; done)
      | (cases h; exact Sim.pure hs (hrun _ (by simp [Op.stringOp]; try rfl)) (.bool _))
      | (split at h
         · rename_i hle
           cases h
           exact Sim.pure hs (hrun _ (by simp only [Op.stringOp]; rw [if_neg (by omega)]; rfl)) (.str _)
         · cases h)
  · cases h

/-! Comparisons of bools, and with nil. -/
def eqV (x y : V) : Option Bool :=
  match x, y with
  | .bool a, .bool b => some (a == b)
  | .nilp, .nilp => some true
  | .nilp, .ptr .. | .nilp, .iptr .. | .ptr .., .nilp | .iptr .., .nilp => some false
  | .nilfn, .nilfn => some true
  | .nilfn, .fn .. | .fn .., .nilfn => some false
  | _, _ => none

def eqKind (P : Program) (t : TypeId) (x y : V) : Bool :=
  match P.underlying t, x, y with
  | some .bool, .bool _, .bool _ => true
  | some (.pointer _), .nilp, .nilp | some (.pointer _), .nilp, .ptr .. | some (.pointer _), .nilp, .iptr .. | some (.pointer _), .ptr .., .nilp | some (.pointer _), .iptr .., .nilp => true
  | some (.func ..), .nilfn, .nilfn | some (.func ..), .nilfn, .fn .. | some (.func ..), .fn .., .nilfn => true
  | _, _, _ => false

theorem run_equalIn {E : En} {P : Program} {w : World} {t : TypeId} {x y : V} {u v : Value} {b : Bool} (n : Nat) (hx : VR E x u) (hy : VR E y v) (h : eqV x y = some b) (hk : eqKind P t x y = true) :
    (Op.equalIn (n + 1) t u v).run P w = .ok b w := by
  cases hd : P.underlying t with
  | none => simp [eqKind, hd] at hk
  | some d =>
    simp only [Op.equalIn, Sem.run_bind, run_underlying' hd, Result.andThen]
    cases hx <;> cases hy <;> simp only [eqV, reduceCtorEq] at h <;> cases h <;> cases d <;> simp [eqKind, hd] at hk <;> rfl

theorem eqV_plain {E : En} {x y : V} {u v : Value} {b : Bool} (hx : VR E x u) (hy : VR E y v) (h : eqV x y = some b) : ¬ (u = .nilIface ∧ v = .nilIface) ∧ (∀ c d, ¬ (u = .agg c ∧ v = .agg d)) ∧
    (∀ t, binOp .eql t u v = do pure (.bool (← Op.equal t u v))) ∧ (∀ t, binOp .neq t u v = do pure (.bool (!(← Op.equal t u v)))) := by
  cases hx <;> cases hy <;> simp only [eqV, reduceCtorEq] at h <;> cases h <;> exact ⟨by simp, by simp, fun _ => rfl, fun _ => rfl⟩

theorem sim_eq {E : En} {S : St} {P : Program} {w : World} {op : BinOp} {t : TypeId} {ox oy : Operand} {x y : V} {u v : Value} {b : Bool} (hs : SR E S w) (hx : VR E x u) (hy : VR E y v) (h : eqV x y = some b) (hk : eqKind P t x y = true) (ho : op = .eql ∨ op = .neq) :
    Sim P E S w (do eqGuard op t ox oy u v; binOp op t u v) (.bool (if op = .eql then b else !b)) S := by
  have h1 : (Op.equal t u v).run P w = .ok b w := run_equalIn 9999 hx hy h hk
  obtain ⟨h2, h3, h4, h5⟩ := eqV_plain hx hy h
  refine Sim.pure hs (d := .bool (if op = .eql then b else !b)) ?_ (.bool _)
  simp only [Sem.run_bind, guard_plain h2 h3, Result.andThen]
  rcases ho with rfl | rfl
  · rw [h4 t]; simp [h1, Result.andThen]
  · rw [h5 t]; simp [h1, Result.andThen]

def unV (op : UnOp) (x : V) : Option V :=
  match op, x with
  | .neg, .int k n => some (.int k (k.wrap (0 - n)))
  | .not, .bool b => some (.bool !b)
  | .xor, .int k n => (bits .xor k (if k.signed then -1 else k.max) n).map (.int k)
  | _, _ => none

theorem sim_un {E : En} {S : St} {P : Program} {w : World} {op : UnOp} {x r : V} {u : Value} (hs : SR E S w) (hx : VR E x u) (h : unV op x = some r) : Sim P E S w (Op.unary op u) r S := by
  unfold unV at h
  split at h <;> cases h <;> cases hx
  · exact Sim.pure hs (by simp [Op.unary, Op.intArith]) (.int _ _)
  · exact Sim.pure hs (by simp [Op.unary]) (.bool _)
  · exact Sim.pure hs (by simp [Op.unary, Op.intBits]) (.int _ _)

def lenV (x : V) : Option V :=
  match x with
  | .sl _ xs => some (.int .i64 xs.length)
  | .arr _ _ len _ => some (.int .i64 len)
  | .str s => some (.int .i64 s.size)
  | _ => none
def lenTy (P : Program) (t : TypeId) : Bool :=
  match P.underlying t with
  | some .string | some (.slice _) => true
  | _ => false

theorem sim_len {E : En} {S : St} {P : Program} {w : World} {x r : V} {u : Value} {ts : Array TypeId} {t T : TypeId} (hs : SR E S w) (ht : ts[0]? = some t) (hk : lenTy P t = true) (hx : VR E x u) (h : lenV x = some r) (hm : (∃ s, x = .str s) ↔ P.underlying t = some .string) :
    Sim P E S w (Builtin.len_ ts T #[u]) r S := by
  have hd : P.underlying t = some .string ∨ ∃ e, P.underlying t = some (.slice e) := by
    unfold lenTy at hk
    split at hk <;> first | exact .inl ‹_› | exact .inr ⟨_, ‹_›⟩ | cases hk
  cases hx <;> simp only [lenV, reduceCtorEq] at h <;> cases h
  · have := hm.1 ⟨_, rfl⟩
    exact Sim.pure hs (by simp [Builtin.len_, ht, run_underlying' this, Result.andThen, goInt]) (.int _ _)
  all_goals
    rcases hd with hd | ⟨e, hd⟩
    · obtain ⟨s, hs'⟩ := hm.2 hd; cases hs'
    · exact Sim.pure hs (by simp [Builtin.len_, ht, run_underlying' hd, Result.andThen, goInt]) (.int _ _)
end Go.Proofs.YtbifpocccfkhhaaGreatDoor
/- What may be forgotten: objects that nothing names any more. -/
namespace Go.Proofs.YtbifpocccfkhhaaGreatDoor
open Go

mutual
/-- A value names no object from m on. -/
def V.under (m : Nat) : V → Bool
  | .ptr l _ _ _ => decide (l < m)
  | .arr l _ _ _ => decide (l < m)
  | .map l => decide (l < m)
  | .yld l => decide (l < m)
  | .iptr v _ => V.under m v
  | .sl _ xs => V.underL m xs
  | .fn f fs cs => (match f with | .yield _ => false | _ => true) && V.underL m fs && V.underL m cs
  | .iface _ v => V.under m v
  | .agg cs => V.underL m cs
  | .tup cs => V.underL m cs
  | _ => true
def V.underL (m : Nat) : List V → Bool
  | [] => true
  | v :: vs => V.under m v && V.underL m vs
end

theorem underL_mem {m : Nat} : ∀ {xs : List V}, V.underL m xs = true → ∀ v, v ∈ xs → v.under m = true
  | [], _, v, hv => by simp at hv
  | x :: xs, h, v, hv => by
    simp only [V.underL, Bool.and_eq_true] at h
    rcases List.mem_cons.1 hv with rfl | hv
    · exact h.1
    · exact underL_mem h.2 v hv
theorem underL_of {m : Nat} : ∀ {xs : List V}, (∀ v, v ∈ xs → v.under m = true) → V.underL m xs = true
  | [], _ => rfl
  | x :: xs, h => by
    simp only [V.underL, Bool.and_eq_true]
    exact ⟨h x (by simp), underL_of fun v hv => h v (by simp [hv])⟩
theorem under_cells {m : Nat} {v c : V} {j : Nat} (h : v.under m = true) (hc : v.cells[j]? = some c) : c.under m = true := by
  by_cases ha : ∃ cs, v = .agg cs
  · obtain ⟨cs, rfl⟩ := ha
    simp only [V.under] at h
    exact underL_mem h c (List.mem_of_getElem? hc)
  · have : v.cells = [v] := by
      cases v <;> first | rfl | exact absurd ⟨_, rfl⟩ ha
    rw [this] at hc
    cases j with
    | zero => simp at hc; subst hc; exact h
    | succ j => simp at hc

def En.cut (E : En) (m : Nat) : En := { E with ρ := fun l st => if l < m then E.ρ l st else none }

theorem VR.cut {E : En} {m : Nat} {v : V} {u : Value} (r : VR E v u) : v.under m = true → VR (E.cut m) v u := by
  induction r with
  | top u => intro _; exact .top u
  | bool b => intro _; exact .bool b
  | int k n => intro _; exact .int k n
  | str s => intro _; exact .str s
  | nilp => intro _; exact .nilp
  | ptr i off hr => intro h; simp [V.under] at h; exact .ptr i off (by simp [En.cut, h, hr])
  | glob g off => intro _; exact .glob g off
  | iptr off hI _ ih => intro h; simp only [V.under] at h; exact .iptr off hI fun j c' c hc hi => ih j c' c hc hi (under_cells h hc)
  | slnil x => intro _; exact .slnil x
  | slz x a => intro _; exact .slz x a
  | sl hc hx hs hI _ ih => intro h; simp only [V.under] at h; exact .sl hc hx hs hI fun i v j c' c hv hcc hi => ih i v j c' c hv hcc hi (under_cells (underL_mem h v (List.mem_of_getElem? hv)) hcc)
  | arr hr hN hc => intro h; simp [V.under] at h; exact .arr (by simp [En.cut, h, hr]) hN hc
  | nilmap => intro _; exact .nilmap
  | map hr => intro h; simp [V.under] at h; exact .map (by simp [En.cut, h, hr])
  | fn h1 h2 _ _ ih1 ih2 =>
    intro h; simp only [V.under, Bool.and_eq_true] at h
    exact .fn h1 h2 (fun i v u hv hu => ih1 i v u hv hu (underL_mem h.1.2 v (List.mem_of_getElem? hv))) (fun i v u hv hu => ih2 i v u hv hu (underL_mem h.2 v (List.mem_of_getElem? hv)))
  | nilfn => intro _; exact .nilfn
  | iface t _ ih => intro h; simp only [V.under] at h; exact .iface t (ih h)
  | niliface => intro _; exact .niliface
  | yld hr => intro hb; simp only [V.under, decide_eq_true_eq] at hb; exact .yld (by simp [En.cut, hb, hr])
  | agg hl _ ih => intro h; simp only [V.under] at h; exact .agg hl fun i v u hv hu => ih i v u hv hu (underL_mem h v (List.mem_of_getElem? hv))
  | tup hl _ ih => intro h; simp only [V.under] at h; exact .tup hl fun i v u hv hu => ih i v u hv hu (underL_mem h v (List.mem_of_getElem? hv))

def Ob.under (m : Nat) : Ob → Bool
  | .arr xs _ _ => V.underL m xs
  | .map es _ _ => es.all fun p => p.1.under m && p.2.under m
  | .iter lm _ _ _ => decide (lm < m)
  | .dead => true
  | .loop i => i.e.all fun p => p.2.under m

/-- Forgetting all objects from m on. -/
theorem SR.cut {E : En} {S : St} {w : World} (h : SR E S w) {m : Nat} (hb : ∀ o, o ∈ S.take m → o.under m = true) (hm : m ≤ S.length) : SR (E.cut m) (S.take m) w ∧ (∀ n, n ≤ m → Ext n E S w (E.cut m) (S.take m) w) := by
  have hlen : (S.take m).length = m := by simp; omega
  have hlv : ∀ l, live (S.take m) l → live S l ∧ l < m := fun l hl => by
    have := live_lt hl
    rw [hlen] at this
    obtain ⟨o, ho, hd⟩ := hl
    exact ⟨⟨o, by rw [List.getElem?_take_of_lt this] at ho; exact ho, hd⟩, this⟩
  have hρ : ∀ l st x, (E.cut m).ρ l st = some x → l < m ∧ E.ρ l st = some x := fun l st x hx => by
    simp only [En.cut] at hx
    split at hx
    · exact ⟨‹_›, hx⟩
    · cases hx
  have hown : ∀ b, own (E.cut m) (S.take m) b → own E S b := fun b ⟨l, st, x, hl, hx, he⟩ => ⟨l, st, x, (hlv l hl).1, (hρ l st x hx).2, he⟩
  have hold : ∀ {w' : World} {x : Blk} {xs : List V} {n : Nat}, V.underL m xs = true → Holds E w' x xs n → Holds (E.cut m) w' x xs n := by
    intro w' x xs n hbl hh
    obtain ⟨C, t, h1, h2, h3, h4⟩ := hh
    refine ⟨C, t, h1, h2, h3, fun i v hv hi j c' hc => ?_⟩
    obtain ⟨c, hc1, hc2⟩ := h4 i v hv hi j c' hc
    exact ⟨c, hc1, hc2.cut (under_cells (underL_mem hbl v (List.mem_of_getElem? hv)) hc)⟩
  refine ⟨⟨⟨h.gl.1, h.gl.2⟩, h.I, ?_, ?_, ?_, ?_, ?_⟩, fun n hn => ⟨Nat.le_refl _, fun _ _ _ hc => hc, fun l st x hl hx => by simp only [En.cut]; rw [if_pos (by omega)]; exact hx, fun l hl hx st => by
      simp only [En.cut]
      split
      · exact hx st
      · rfl, fun b hb => .inl (hown b hb), fun b o c hc => .inl hc, fun _ _ _ => rfl, rfl⟩⟩
  · intro l o ho
    have hlt : l < m := by have := (List.getElem?_eq_some_iff.1 ho).1; rw [hlen] at this; exact this
    have hbo := hb o (List.mem_of_getElem? ho)
    rw [List.getElem?_take_of_lt hlt] at ho
    have := h.obs l o ho
    cases o with
    | arr xs sz wr =>
      obtain ⟨h0, h1, h2⟩ := this
      refine ⟨h0, h1, fun st x hx hwr => ?_⟩
      obtain ⟨a, b, c⟩ := h2 st x (hρ l st x hx).2 hwr
      exact ⟨a, b, hold hbo c⟩
    | iter lm since seen last =>
      obtain ⟨x, y, h1, h2, h3⟩ := this
      simp only [Ob.under, decide_eq_true_eq] at hbo
      exact ⟨x, y, by simp [En.cut, hlt, h1], by simp [En.cut, hbo, h2], h3⟩
    | map es bs ck =>
      obtain ⟨x, entries, h1, h2, h3, h5, h4⟩ := this
      refine ⟨x, entries, by simp [En.cut, hlt, h1], h2, h3, h5, fun i k v e hk he => ?_⟩
      obtain ⟨a, b⟩ := h4 i k v e hk he
      simp only [Ob.under, List.all_eq_true, Bool.and_eq_true] at hbo
      have := hbo (k, v) (List.mem_of_getElem? hk)
      exact ⟨a.cut this.1, b.cut this.2⟩
    | dead => trivial
    | loop i =>
      obtain ⟨x, r, h1, h2, h3, h4, h5, h6, h7, h8, h9⟩ := this
      refine ⟨x, r, by simp [En.cut, hlt, h1], h2, h3, h4, h5, h6, h7, h8, fun t v hv => ?_⟩
      obtain ⟨u, hu, hr⟩ := h9 t v hv
      simp only [Ob.under, List.all_eq_true] at hbo
      exact ⟨u, hu, hr.cut (hbo (t, v) (Env.get_mem hv))⟩
  · intro l st x hx; rw [hlen]; exact (hρ l st x hx).1
  · intro b o hb'; exact h.apart b o (hown b hb')
  · intro b hb'; exact h.lt b (hown b hb')
  · intro l l' st st' x x' hl hl' hx hx' he
    exact h.inj l l' st st' x x' (hlv l hl).1 (hlv l' hl').1 (hρ l st x hx).2 (hρ l' st' x' hx').2 he

/-! Freezing: an array that is never written any more. -/
theorem own_sub {E E' : En} {S : St} {l b : Nat} (hρ : E'.ρ = E.ρ) (h : own E' (S.set l .dead) b) : own E S b ∧ ∀ st x, live S l → E.ρ l st = some x → (∀ l' st' x', live S l' → E.ρ l' st' = some x' → x'.b = x.b → l' = l) → x.b ≠ b := by
  obtain ⟨l', st, x, hl, hx, rfl⟩ := h
  rw [hρ] at hx
  have hne : l' ≠ l := by
    rintro rfl
    obtain ⟨o, ho, hd⟩ := hl
    rcases Nat.lt_or_ge l' S.length with hlt | hge
    · rw [List.getElem?_set_self hlt] at ho; cases ho; exact hd rfl
    · rw [List.getElem?_eq_none (by simp; omega)] at ho; cases ho
  have hlv : live S l' := by
    obtain ⟨o, ho, hd⟩ := hl
    rw [List.getElem?_set_ne (Ne.symm hne)] at ho
    exact ⟨o, ho, hd⟩
  exact ⟨⟨l', st, x, hlv, hx, rfl⟩, fun st' x' _ hx' hinj e => hne (hinj l' st x hlv hx e.symm)⟩

/-- The elements of a slice of the array l become memory that is never written, and the array is gone. -/
theorem SR.freeze {E : En} {S : St} {w : World} (h : SR E S w) {l off len st sz wr : Nat} {xs : List V} {u : Value} (ho : S[l]? = some (.arr xs sz wr)) (hwr : wr ≤ st) (hv : VR E (.arr l off len st) u) (hle : off + len ≤ st) :
    ∃ E', SR E' (S.set l .dead) w ∧ (∀ n, Ext n E S w E' (S.set l .dead) w) ∧ E.le E' ∧ VR E' (.sl false ((xs.drop off).take len)) u := by
  cases hv with
  | arr hr hN hc =>
    rename_i cap x
    obtain ⟨h0, h1, h2⟩ := h.obs l _ ho
    obtain ⟨g1, g2, C, t, g3, g4, g5, g6⟩ := h2 st x hr hwr
    have hlive : live S l := ⟨_, ho, by simp⟩
    have hbo : own E S x.b := ⟨l, st, x, hlive, hr, rfl⟩
    let E' : En := { E with I := fun b o => if b = x.b ∧ off * x.sz ≤ o ∧ o < (off + len) * x.sz then C[o]? else E.I b o }
    have hle' : E.le E' := ⟨fun b o c hc => by
      simp only [E']
      split
      · rename_i hk; obtain ⟨rfl, _⟩ := hk
        rw [h.apart x.b o hbo] at hc; cases hc
      · exact hc, fun _ _ _ h => h⟩
    have hρ : E'.ρ = E.ρ := rfl
    have hinj : ∀ l' st' x', live S l' → E.ρ l' st' = some x' → x'.b = x.b → l' = l := fun l' st' x' hl' hx' he => h.inj l' l st' st x' x hl' hlive hx' hr he
    refine ⟨E', ⟨h.gl.old hle'.1 (fun _ _ _ _ _ _ => rfl), ?_, ?_, ?_, ?_, ?_, ?_⟩, fun n => ⟨Nat.le_refl _, hle'.1, fun l st x _ hx => hx, fun _ _ hx => hx, fun b hb => .inl (own_sub hρ hb).1, ?_, fun _ _ _ => rfl, rfl⟩, hle', ?_⟩
    · intro b o c hc
      simp only [E'] at hc
      split at hc
      · rename_i hk; obtain ⟨rfl, _⟩ := hk
        rw [cell?_of g3]; exact hc
      · exact h.I b o c hc
    · intro l' o' hl'
      by_cases hk : l' = l
      · subst hk
        rw [List.getElem?_set_self (live_lt hlive)] at hl'; cases hl'; trivial
      · rw [List.getElem?_set_ne (Ne.symm hk)] at hl'
        exact (h.obs l' o' hl').mono hle' (fun _ _ hx => hx) (fun _ _ _ => rfl)
    · intro l' st' x' hx'; simpa using h.dom l' st' x' hx'
    · intro b o hb
      obtain ⟨hb1, hb2⟩ := own_sub hρ hb
      have hne := hb2 st x hlive hr hinj
      simp only [E']
      rw [if_neg (fun hk => hne hk.1.symm)]
      exact h.apart b o hb1
    · intro b hb; exact h.lt b (own_sub hρ hb).1
    · intro l1 l2 st1 st2 x1 x2 hl1 hl2 hx1 hx2 he
      have key : ∀ l', live (S.set l .dead) l' → live S l' := fun l' hl' => live_set hl' hlive
      exact h.inj l1 l2 st1 st2 x1 x2 (key l1 hl1) (key l2 hl2) hx1 hx2 he
    · intro b o c hc
      simp only [E'] at hc
      split at hc
      · rename_i hk; obtain ⟨rfl, _⟩ := hk; exact .inr (.inl hbo)
      · exact .inl hc
    · have hlen : ((xs.drop off).take len).length = len := by simp; omega
      have hget : ∀ (i : Nat) (v : V), ((xs.drop off).take len)[i]? = some v → xs[off + i]? = some v ∧ i < len := fun i v hv => by
        have hi := (List.getElem?_eq_some_iff.1 hv).1
        rw [hlen] at hi
        rw [List.getElem?_take_of_lt hi, List.getElem?_drop] at hv
        exact ⟨hv, hi⟩
      have hmem : ∀ v, v ∈ (xs.drop off).take len → v.cells.length = x.sz := fun v hv => by rw [g2]; exact h1 v (List.mem_of_mem_drop (List.mem_of_mem_take hv))
      have hrow : ∀ i j, i < len → j < x.sz → off * x.sz ≤ off * x.sz + i * x.sz + j ∧ off * x.sz + i * x.sz + j < (off + len) * x.sz := fun i j hi hj => by
        have : (i + 1) * x.sz ≤ len * x.sz := Nat.mul_le_mul_right _ hi
        rw [Nat.add_mul] at this
        rw [Nat.add_mul]
        omega
      have := VR.sl (E := E') (x := false) (xs := (xs.drop off).take len) (b := x.b) (o := off * x.sz) (cap := cap) (sz := x.sz) (by rw [hlen]; exact hc) (fun h => by cases h) hmem
        (fun i j hi hj => by
          rw [hlen] at hi
          simp only [E']
          rw [if_pos ⟨trivial, hrow i j hi hj⟩]
          have hx : xs[off + i]? = some (xs[off + i]'(by omega)) := by simp
          have hcl : (xs[off + i]'(by omega)).cells.length = x.sz := by rw [g2]; exact h1 _ (List.getElem_mem _)
          obtain ⟨c, hc1, _⟩ := g6 (off + i) _ hx (by omega) j (xs[off + i]'(by omega)).cells[j] (by simp)
          rw [show off * x.sz + i * x.sz + j = (off + i) * x.sz + j by rw [Nat.add_mul], hc1]; rfl)
        (fun i v j c' c hv hcc hi => by
          obtain ⟨hv', hi'⟩ := hget i v hv
          have hj : j < x.sz := by rw [← hmem v (List.mem_of_getElem? hv)]; exact (List.getElem?_eq_some_iff.1 hcc).1
          obtain ⟨d, hd1, hd2⟩ := g6 (off + i) v hv' (by omega) j c' hcc
          simp only [E'] at hi
          rw [if_pos ⟨trivial, hrow i j hi' hj⟩, show off * x.sz + i * x.sz + j = (off + i) * x.sz + j by rw [Nat.add_mul], hd1] at hi
          cases hi
          exact hd2.mono hle')
      rw [hlen] at this
      exact this
end Go.Proofs.YtbifpocccfkhhaaGreatDoor
