/- The candidates for a fresh name: one of the first 999 is free. -/
import Derived.Test.YtbifpocccfkhhaaGreatDoorLai
import Derived.Lib.ItoaMem
import Derived.Test.YtbifpocccfkhhaaGreatDoorMItoa
import Derived.Test.YtbifpocccfkhhaaGreatDoorMFT
import Derived.Test.YtbifpocccfkhhaaGreatDoorMX1
import Derived.Test.YtbifpocccfkhhaaGreatDoorMR1
import Derived.Test.YtbifpocccfkhhaaGreatDoorMR6
namespace Go.Proofs.YtbifpocccfkhhaaGreatDoor
open Go

theorem pigeon {α : Type} [DecidableEq α] : ∀ (l : List α) (m : Nat) (f : Nat → α), (∀ i j, i < m → j < m → f i = f j → i = j) → (∀ i, i < m → f i ∈ l) → m ≤ l.length
  | [], m, f, _, h => by
    cases m with
    | zero => exact Nat.le_refl _
    | succ m => exact absurd (h 0 (by omega)) (by simp)
  | a :: l, m, f, hinj, h => by
    by_cases ha : ∃ i, i < m ∧ f i = a
    · obtain ⟨i0, hi, he⟩ := ha
      have hm : 0 < m := by omega
      have := pigeon l (m - 1) (fun j => if j < i0 then f j else f (j + 1)) (fun i j hi' hj' hf => by
        split at hf <;> split at hf
        · exact hinj i j (by omega) (by omega) hf
        · have := hinj i (j + 1) (by omega) (by omega) hf; omega
        · have := hinj (i + 1) j (by omega) (by omega) hf; omega
        · have := hinj (i + 1) (j + 1) (by omega) (by omega) hf; omega) (fun j hj => by
        split
        · rename_i hlt
          rcases List.mem_cons.1 (h j (by omega)) with h1 | h1
          · have := hinj j i0 (by omega) hi (h1.trans he.symm); omega
          · exact h1
        · rename_i hge
          rcases List.mem_cons.1 (h (j + 1) (by omega)) with h1 | h1
          · have := hinj (j + 1) i0 (by omega) hi (h1.trans he.symm); omega
          · exact h1)
      simp; omega
    · have := pigeon l m f hinj fun i hi => by
        rcases List.mem_cons.1 (h i hi) with h1 | h1
        · exact absurd ⟨i, hi, h1⟩ ha
        · exact h1
      simp; omega

/-- The digits of a number. -/
def dig (n : Nat) : List UInt8 := Lib.decDigits n
theorem dig_small {n : Nat} (h : n < 10) : dig n = [UInt8.ofNat (48 + n)] := by unfold dig; rw [Lib.decDigits]; rw [dif_pos h]
theorem dig_step {n : Nat} (h : ¬ n < 10) : dig n = dig (n / 10) ++ [UInt8.ofNat (48 + n % 10)] := by unfold dig; rw [Lib.decDigits]; rw [dif_neg h]
theorem dig_len {n : Nat} (h : n < 10000) : 1 ≤ (dig n).length ∧ (dig n).length ≤ 4 := by
  by_cases h1 : n < 10
  · rw [dig_small h1]; simp
  rw [dig_step h1]
  by_cases h2 : n / 10 < 10
  · rw [dig_small h2]; simp
  rw [dig_step h2]
  by_cases h3 : n / 10 / 10 < 10
  · rw [dig_small h3]; simp
  rw [dig_step h3, dig_small (by omega)]; simp
theorem dig_three {n : Nat} (h : n < 900) : dig (100 + n) = [UInt8.ofNat (48 + (100 + n) / 10 / 10), UInt8.ofNat (48 + (100 + n) / 10 % 10), UInt8.ofNat (48 + (100 + n) % 10)] := by
  rw [dig_step (by omega), dig_step (by omega), dig_small (by omega)]; rfl

def cand (s : ByteArray) (n : Nat) : ByteArray := ⟨(s.data.toList.take (min s.size (16 - (dig n).length)) ++ dig n).toArray⟩

theorem u8_inj {a b : Nat} (ha : a < 256) (hb : b < 256) (h : UInt8.ofNat a = UInt8.ofNat b) : a = b := by
  have := congrArg UInt8.toNat h
  simpa [Nat.mod_eq_of_lt ha, Nat.mod_eq_of_lt hb] using this

theorem cand_inj {s : ByteArray} {i j : Nat} (hi : i < 900) (hj : j < 900) (h : cand s (100 + i) = cand s (100 + j)) : i = j := by
  unfold cand at h
  rw [dig_three hi, dig_three hj] at h
  simp only [ByteArray.mk.injEq, List.length_cons, List.length_nil] at h
  have h := congrArg Array.toList h
  simp only [List.append_cancel_left_eq, List.cons.injEq, and_true] at h
  obtain ⟨h1, h2, h3⟩ := h
  have h1 := u8_inj (by omega) (by omega) h1
  have h2 := u8_inj (by omega) (by omega) h2
  have h3 := u8_inj (by omega) (by omega) h3
  omega

theorem exists_free (s : ByteArray) (taken : List ByteArray) (ht : taken.length ≤ 500) : ∃ n, 1 ≤ n ∧ n ≤ 999 ∧ cand s n ∉ taken := by
  have : ¬ ∀ i, i < 900 → cand s (100 + i) ∈ taken := fun h => by
    have := pigeon taken 900 (fun i => cand s (100 + i)) (fun i j hi hj he => cand_inj hi hj he) h
    omega
  have : ∃ i, i < 900 ∧ cand s (100 + i) ∉ taken := by
    apply Classical.byContradiction
    intro hn
    exact this fun i hi => Classical.byContradiction fun hc => hn ⟨i, hi, hc⟩
  obtain ⟨i, hi, hc⟩ := this
  exact ⟨100 + i, by omega, by omega, hc⟩

/-- The first candidate that is free. -/
theorem first_free (s : ByteArray) (taken : List ByteArray) (ht : taken.length ≤ 500) : ∃ n, 1 ≤ n ∧ n ≤ 999 ∧ cand s n ∉ taken ∧ ∀ i, 1 ≤ i → i < n → cand s i ∈ taken := by
  obtain ⟨n, h1, h2, h3⟩ := exists_free s taken ht
  induction n using Nat.strongRecOn with
  | ind n ih =>
    by_cases hm : ∃ m, 1 ≤ m ∧ m < n ∧ cand s m ∉ taken
    · obtain ⟨m, a, b, c⟩ := hm
      exact ih m b a (by omega) c
    · exact ⟨n, h1, h2, h3, fun i hi hl => Classical.byContradiction fun hc => hm ⟨i, hi, hl, hc⟩⟩
end Go.Proofs.YtbifpocccfkhhaaGreatDoor
/- A number's text. -/
namespace Go.Proofs.YtbifpocccfkhhaaGreatDoor
open Go

/-- Blocks are added, and nothing else happens. -/
theorem SR.grown {E : En} {S : St} {w w' : World} (h : SR E S w) (hb : ∀ b, b < w.heap.size → w'.heap[b]? = w.heap[b]?) (hs : w.heap.size ≤ w'.heap.size) (ho : (w'.output, w'.os) = (w.output, w.os)) : SR E S w' ∧ ∀ n, Ext n E S w E S w' := by
  refine ⟨⟨h.gl.old (fun _ _ _ h => h) (fun b _ _ _ hc _ => hb b (heap_lt hc)), fun b o' c hc => ?_, fun l ob hl => ?_, h.dom, h.apart, fun b hb' => ?_, h.inj⟩, fun n => ⟨hs, fun _ _ _ h => h, fun _ _ _ _ h => h, fun _ _ h => h, fun _ h => .inl h, fun _ _ _ h => .inl h, fun b hb' _ => hb b hb', ho⟩⟩
  · have := h.I b o' c hc
    rw [cell?_heap (hb b (cell?_lt this))]; exact this
  · by_cases hd : ob = .dead
    · subst hd; trivial
    exact (h.obs l ob hl).mono (En.le_refl E) (fun _ _ hx => hx) (fun st x hx => hb _ (h.lt _ ⟨l, st, x, ⟨ob, hl, hd⟩, hx, rfl⟩))
  · have := h.lt b hb'; omega

theorem SR.tab {E : En} {S : St} {w : World} (h : SR E S w) : Lib.TabIs Tryz.prog w "internal/strconv.uint64pow10" .u64 Lib.pow10Tab := by
  obtain ⟨t, fz, hh⟩ := h.gl.2 2 _ (by simp only [globB, if_pos]; rfl)
  unfold Lib.TabIs World.var?
  rw [show Tryz.prog.globalNamed "internal/strconv.uint64pow10" = some 2 by decide +kernel]
  simp only [Option.bind_some, hh]
  simp [Lib.pow10Tab, List.map_map, Function.comp]

theorem Spec.of_calls {P : Program} {f : FuncId} {fn : Func} {f' : F'} {args : List V} {S : St} {R : V → St → Prop} (hf : P.funcs[f]? = some fn) (hc : compF P fn = some f')
    (h : ∀ (E : En) (w : World) (us : Array Value), SR E S w → VRs E args us → Calls P f us w fun e w' => ∃ u r E' S', e = .returned u ∧ R r S' ∧ VR E' r u ∧ SR E' S' w' ∧ Ext S.length E S w E' S' w' ∧ S.length ≤ S'.length) : Spec P f args S R := by
  refine ⟨fun xs w => ?_, fun E w us n hs hv => callsIn_wide.2 (h E w us hs hv)⟩
  unfold compF at hc
  split at hc
  · rename_i c rs hb hrs
    split at hc
    · cases hc
    · rename_i hname
      simp [callFunc, program, Sem.run, Result.andThen, hf, hname, hb]
  · cases hc

theorem spec129 (n : Nat) (hn : n ≤ 9223372036854775807) (S : St) : Spec Tryz.prog 129 [.int .i64 n] S (fun r U => r = .str ⟨(dig n).toArray⟩ ∧ U = S) := by
  refine Spec.of_calls Tryz.func129 ok129 fun E w us hs hv => ?_
  obtain ⟨hl, hv⟩ := hv
  have hu : us = #[.int .i64 n] := by
    match us, hl with
    | ⟨[u]⟩, _ =>
      have := hv 0 _ u rfl rfl
      cases this; rfl
  subst hu
  refine Calls.mono (Tryz.strconv_Itoa n (by omega) (by omega) w hs.tab) ?_
  rintro e w' ⟨rfl, k, os, rfl⟩
  obtain ⟨g1, g2⟩ := hs.grown (w' := Sort.grow (w.drewN k) os) (fun b hb => by simp [Sort.grow, World.drewN, Array.getElem?_append, hb]) (by simp [Sort.grow, World.drewN]) rfl
  refine ⟨_, _, E, S, rfl, ⟨rfl, rfl⟩, ?_, g1, g2 _, Nat.le_refl _⟩
  rw [show Lib.itoa (n : Int) = dig n by unfold Lib.itoa dig; simp]
  exact VR.str _
end Go.Proofs.YtbifpocccfkhhaaGreatDoor
/- Letters, digits. -/
namespace Go.Proofs.YtbifpocccfkhhaaGreatDoor
open Go

def isL (c : Int) : Bool := decide (97 ≤ c) && decide (c ≤ 122)
def isD (c : Int) : Bool := decide (48 ≤ c) && decide (c ≤ 57)

theorem spec102 (c : Int) (S : St) : Fn Tryz.prog 102 [.int .u8 c] S (.bool (isL c)) := by
  refine Spec.intro Tryz.func102 ok102 (by simp [c102]) ?_
  unfold isL
  by_cases h1 : 97 ≤ c <;> by_cases h2 : c ≤ 122 <;> simp [c102, h1, h2] <;> exact endp_ret rfl (by simp)
theorem spec155 (c : Int) (S : St) : Fn Tryz.prog 155 [.int .u8 c] S (.bool (isD c)) := by
  refine Spec.intro Tryz.func155 ok155 (by simp [c155]) ?_
  unfold isD
  by_cases h1 : 48 ≤ c <;> by_cases h2 : c ≤ 57 <;> simp [c155, h1, h2] <;> exact endp_ret rfl (by simp)
theorem spec64 (c : Int) (S : St) : Fn Tryz.prog 64 [.int .u8 c] S (.bool (isL c)) := by
  refine Spec.intro Tryz.func64 ok64 (by simp [c64]) ?_
  unfold isL
  by_cases h1 : 97 ≤ c <;> by_cases h2 : c ≤ 122 <;> simp [c64, h1, h2] <;> exact endp_ret rfl (by simp)
theorem spec116 (c : Int) (S : St) : Fn Tryz.prog 116 [.int .u8 c] S (.bool (isD c)) := by
  refine Spec.intro Tryz.func116 ok116 (by simp [c116]) ?_
  unfold isD
  by_cases h1 : 48 ≤ c <;> by_cases h2 : c ≤ 57 <;> simp [c116, h1, h2] <;> exact endp_ret rfl (by simp)
theorem spec106 (c : Int) (S : St) : Fn Tryz.prog 106 [.int .u8 c] S (.bool (isL c || isD c)) := by
  refine Spec.intro Tryz.func106 ok106 (by simp [c106]) ?_
  simp [c106]
  refine useFn (spec102 c S) ?_
  cases isL c <;> simp
  · refine useFn (spec155 c S) ?_
    try simp
    exact endp_ret rfl (by simp)
  · exact endp_ret rfl (by simp)
theorem spec105 (c : Int) (S : St) : Fn Tryz.prog 105 [.int .u8 c] S (.bool (!(isL c || isD c))) := by
  refine Spec.intro Tryz.func105 ok105 (by simp [c105]) ?_
  simp [c105]
  refine useFn (spec106 c S) ?_
  try simp
  exact endp_ret rfl (by simp)
noncomputable def words : List V := [(.str ⟨⟨[98, 101, 103, 105, 110]⟩⟩), (.str ⟨⟨[101, 110, 100]⟩⟩), (.str ⟨⟨[105, 102]⟩⟩), (.str ⟨⟨[116, 104, 101, 110]⟩⟩), (.str ⟨⟨[101, 108, 115, 101]⟩⟩), (.str ⟨⟨[102, 111, 114]⟩⟩), (.str ⟨⟨[100, 111]⟩⟩), (.str ⟨⟨[115, 116, 101, 112]⟩⟩), (.str ⟨⟨[117, 110, 116, 105, 108]⟩⟩), (.str ⟨⟨[119, 104, 105, 108, 101]⟩⟩), (.str ⟨⟨[103, 111, 116, 111]⟩⟩), (.str ⟨⟨[111, 119, 110]⟩⟩), (.str ⟨⟨[105, 110, 116, 101, 103, 101, 114]⟩⟩), (.str ⟨⟨[114, 101, 97, 108]⟩⟩), (.str ⟨⟨[98, 111, 111, 108, 101, 97, 110]⟩⟩), (.str ⟨⟨[97, 114, 114, 97, 121]⟩⟩), (.str ⟨⟨[115, 119, 105, 116, 99, 104]⟩⟩), (.str ⟨⟨[112, 114, 111, 99, 101, 100, 117, 114, 101]⟩⟩), (.str ⟨⟨[118, 97, 108, 117, 101]⟩⟩), (.str ⟨⟨[108, 97, 98, 101, 108]⟩⟩), (.str ⟨⟨[115, 116, 114, 105, 110, 103]⟩⟩), (.str ⟨⟨[116, 114, 117, 101]⟩⟩), (.str ⟨⟨[102, 97, 108, 115, 101]⟩⟩), (.str ⟨⟨[99, 111, 109, 109, 101, 110, 116]⟩⟩), (.str ⟨⟨[110, 111, 116]⟩⟩), (.str ⟨⟨[97, 110, 100]⟩⟩), (.str ⟨⟨[111, 114]⟩⟩), (.str ⟨⟨[105, 109, 112]⟩⟩), (.str ⟨⟨[101, 113, 118]⟩⟩)]
def unStr : V → ByteArray
  | .str s => s
  | _ => ⟨#[]⟩
noncomputable def wds : List ByteArray := words.map unStr
theorem wds_map : wds.map V.str = words := rfl
theorem wds_len : wds.length = 29 := rfl
theorem spec115 (S : St) : Fn Tryz.prog 115 [] S (.sl true (wds.map .str)) := by
  rw [wds_map]
  refine Spec.intro Tryz.func115 ok115 (by simp [c115]) ?_
  show endp c115.rs S.length _ .ret [(0, .sl true words), (1, .sl true words), (0, .sl true [])] S
  exact endp_ret (vs := [.sl true words]) rfl ⟨rfl, rfl⟩
end Go.Proofs.YtbifpocccfkhhaaGreatDoor
/- Membership: loops over lists. -/
namespace Go.Proofs.YtbifpocccfkhhaaGreatDoor
open Go

theorem spec184 (b : Bool) (l : List ByteArray) (s : ByteArray) (S : St) (hl : l.length ≤ 1000000) : Spec Tryz.prog 184 [.sl b (l.map .str), .str s] S (fun v U => (∃ i : Int, v = .int .i64 i ∧ (0 ≤ i ↔ s ∈ l)) ∧ U = S) := by
  refine Spec.intro Tryz.func184 ok184 (by simp [c184]) ?_
  simp [c184]
  refine WP_loop (fun n e S' => ∃ i : Nat, n = l.length - i ∧ i ≤ l.length ∧ (∀ j, (h : j < l.length) → j < i → l[j] ≠ s) ∧ S' = S ∧
    e = [(8, .int .i64 i), (7, .int .i64 l.length), (4, .int .i64 0), (0, .sl b (l.map .str)), (1, .str s)]) l.length _ ?_ ⟨0, by simp, by omega, by omega, rfl, rfl⟩ ?_
  · repeat' first | exact Env.sub_nil _ | refine Env.sub_cons (by simp) ?_
  rintro n e S' ⟨i, rfl, hi, hno, rfl, rfl⟩
  by_cases h : i < l.length
  · by_cases he : s = l[i]
    · simp [h, iaStr, he]
      exact endp_ret rfl ⟨⟨i, rfl, by simp⟩, rfl⟩
    · simp [h, iaStr, he, i64_small (n := (i : Int) + 1) (by omega) (by omega)]
      refine ⟨_, ?_, _, ?_, i + 1, rfl, by omega, fun j hj hji => ?_, rfl⟩
      · omega
      · repeat' first | exact Env.sub_nil _ | refine Env.sub_cons (by simp) ?_
      · by_cases hj' : j = i
        · subst hj'; exact fun hh => he hh.symm
        · exact hno j hj (by omega)
  · simp [h]
    refine endp_ret rfl ⟨⟨-1, rfl, ?_⟩, rfl⟩
    simp
    intro hs
    obtain ⟨j, hj, rfl⟩ := List.getElem_of_mem hs
    exact hno j hj (by omega) rfl
end Go.Proofs.YtbifpocccfkhhaaGreatDoor
/- Names. -/
namespace Go.Proofs.YtbifpocccfkhhaaGreatDoor
open Go

def isIn (s : ByteArray) (l : List ByteArray) : Bool := l.any fun x => decide (x = s)
theorem isIn_iff {s : ByteArray} {l : List ByteArray} : isIn s l = true ↔ s ∈ l := by simp [isIn]
theorem isIn_not {s : ByteArray} {l : List ByteArray} : isIn s l = false ↔ s ∉ l := by rw [← isIn_iff]; simp

theorem spec152 (b : Bool) (l : List ByteArray) (s : ByteArray) (S : St) (hl : l.length ≤ 1000000) : Fn Tryz.prog 152 [.sl b (l.map .str), .str s] S (.bool (isIn s l)) := by
  refine Spec.intro Tryz.func152 ok152 (by simp [c152]) ?_
  simp [c152]
  refine useSpec (spec184 b l s S hl) ?_
  rintro v S' ⟨⟨i, rfl, hi⟩, rfl⟩
  simp
  exact endp_ret rfl ⟨by simp only [retV, V.bool.injEq]; rw [Bool.eq_iff_iff, isIn_iff, ← hi]; simp, rfl⟩

theorem spec153 (S : St) : Fn Tryz.prog 153 [] S (.sl false (wds.map .str)) := by
  rw [wds_map]; exact pr2_ok S

theorem spec103 (s : ByteArray) (S : St) : Fn Tryz.prog 103 [.str s] S (.bool (isIn s wds)) := by
  refine Spec.intro Tryz.func103 ok103 (by simp [c103]) ?_
  simp [c103]
  refine useFn (spec153 S) ?_
  refine useFn (spec152 false wds s S (by rw [wds_len]; omega)) ?_
  exact endp_ret rfl ⟨rfl, rfl⟩

theorem spec114 (b : Bool) (l : List ByteArray) (s : ByteArray) (S : St) (hl : l.length ≤ 1000000) : Fn Tryz.prog 114 [.str s, .sl b (l.map .str)] S (.bool (isIn s l)) := by
  refine Spec.intro Tryz.func114 ok114 (by simp [c114]) ?_
  simp [c114]
  refine WP_loop (fun n e S' => ∃ i : Nat, n = l.length - i ∧ i ≤ l.length ∧ (∀ j, (h : j < l.length) → j < i → l[j] ≠ s) ∧ S' = S ∧
    e = [(5, .int .i64 i), (4, .bool false), (0, .str s), (1, .sl b (l.map .str))]) l.length _ ?_ ⟨0, by simp, by omega, by omega, rfl, rfl⟩ ?_
  · repeat' first | exact Env.sub_nil _ | refine Env.sub_cons (by simp) ?_
  rintro n e S' ⟨i, rfl, hi, hno, rfl, rfl⟩
  by_cases h : i < l.length
  · by_cases he : l[i] = s
    · simp [h, iaStr, he]
      exact endp_ret rfl ⟨by rw [isIn_iff.2 (by rw [← he]; exact List.getElem_mem h)]; rfl, rfl⟩
    · simp [h, iaStr, he, i64_small (n := (i : Int) + 1) (by omega) (by omega)]
      refine ⟨_, ?_, _, ?_, i + 1, rfl, by omega, fun j hj hji => ?_, rfl⟩
      · omega
      · repeat' first | exact Env.sub_nil _ | refine Env.sub_cons (by simp) ?_
      · by_cases hj' : j = i
        · subst hj'; exact he
        · exact hno j hj (by omega)
  · simp [h]
    refine endp_ret rfl ⟨?_, rfl⟩
    rw [isIn_not.2]
    · rfl
    intro hs
    obtain ⟨j, hj, rfl⟩ := List.getElem_of_mem hs
    exact hno j hj (by omega) rfl

theorem spec34 (b : Bool) (l : List ByteArray) (s : ByteArray) (S : St) (hl : l.length ≤ 1000000) : Fn Tryz.prog 34 [.sl b (l.map .str), .str s] S (.bool (isIn s l)) := by
  refine Spec.intro Tryz.func34 ok34 (by simp [c34]) ?_
  simp [c34]
  refine WP_loop (fun n e S' => ∃ i : Nat, n = l.length - i ∧ i ≤ l.length ∧ (∀ j, (h : j < l.length) → j < i → l[j] ≠ s) ∧ S' = S ∧
    e = [(5, .int .i64 i), (4, .bool false), (0, .sl b (l.map .str)), (1, .str s)]) l.length _ ?_ ⟨0, by simp, by omega, by omega, rfl, rfl⟩ ?_
  · repeat' first | exact Env.sub_nil _ | refine Env.sub_cons (by simp) ?_
  rintro n e S' ⟨i, rfl, hi, hno, rfl, rfl⟩
  by_cases h : i < l.length
  · by_cases he : l[i] = s
    · simp [h, iaStr, he]
      exact endp_ret rfl ⟨by rw [isIn_iff.2 (by rw [← he]; exact List.getElem_mem h)]; rfl, rfl⟩
    · simp [h, iaStr, he, i64_small (n := (i : Int) + 1) (by omega) (by omega)]
      refine ⟨_, ?_, _, ?_, i + 1, rfl, by omega, fun j hj hji => ?_, rfl⟩
      · omega
      · repeat' first | exact Env.sub_nil _ | refine Env.sub_cons (by simp) ?_
      · by_cases hj' : j = i
        · subst hj'; exact he
        · exact hno j hj (by omega)
  · simp [h]
    refine endp_ret rfl ⟨?_, rfl⟩
    rw [isIn_not.2]
    · rfl
    intro hs
    obtain ⟨j, hj, rfl⟩ := List.getElem_of_mem hs
    exact hno j hj (by omega) rfl

theorem spec65 (s : ByteArray) (S : St) : Fn Tryz.prog 65 [.str s] S (.bool (isIn s wds)) := by
  refine Spec.intro Tryz.func65 ok65 (by simp [c65]) ?_
  simp [c65]
  refine useFn (spec115 S) ?_
  refine useFn (spec114 true wds s S (by rw [wds_len]; omega)) ?_
  exact endp_ret rfl ⟨rfl, rfl⟩

/-- A byte that may stand in a name. -/
def inName (b : UInt8) : Bool := isL b.toNat || isD b.toNat
def allIn (l : List UInt8) : Bool := l.all inName
theorem allIn_iff {l : List UInt8} : allIn l = true ↔ ∀ i, (h : i < l.length) → inName l[i] = true := by
  unfold allIn
  rw [List.all_eq_true]
  exact ⟨fun hh i h => hh _ (List.getElem_mem h), fun hh x hx => by obtain ⟨i, h, rfl⟩ := List.getElem_of_mem hx; exact hh i h⟩
def vByte (b : UInt8) : V := .int .u8 b.toNat
theorem iaByte {l : List UInt8} {i : Nat} (h : i < l.length) (b : Bool) (S : St) : iaS S 1 (.sl b (l.map vByte)) i = some (.iptr (vByte l[i]) 0) := by simp [iaS, h, V.size, V.cells, vByte]
theorem ldByte (s : UInt8) (S : St) : ldS S (.iptr (vByte s) 0) none = some (vByte s) := rfl

theorem spec154 (b : Bool) (l : List UInt8) (S : St) (hl : l.length ≤ 1000000) : Spec Tryz.prog 154 [.sl b (l.map vByte), .fn (.func 105) [] []] S (fun v U => (∃ i : Int, v = .int .i64 i ∧ (0 ≤ i ↔ allIn l = false)) ∧ U = S) := by
  refine Spec.intro Tryz.func154 ok154 (by simp [c154]) ?_
  simp [c154]
  refine WP_loop (fun n e S' => ∃ i : Nat, n = l.length - i ∧ i ≤ l.length ∧ (∀ j, (h : j < l.length) → j < i → inName l[j] = true) ∧ S' = S ∧
    e = [(8, .int .i64 i), (7, .int .i64 l.length), (4, .int .i64 0), (0, .sl b (l.map vByte)), (1, .fn (.func 105) [] [])]) l.length _ ?_ ⟨0, by simp, by omega, by omega, rfl, rfl⟩ ?_
  · repeat' first | exact Env.sub_nil _ | refine Env.sub_cons (by simp) ?_
  rintro n e S' ⟨i, rfl, hi, hno, rfl, rfl⟩
  by_cases h : i < l.length
  · simp [h, iaByte, ldByte]
    refine useFn (spec105 _ S') ?_
    by_cases he : inName l[i] = true
    · rw [show (isL l[i].toNat || isD l[i].toNat) = true from he]
      simp [i64_small (n := (i : Int) + 1) (by omega) (by omega)]
      refine ⟨_, ?_, _, ?_, i + 1, rfl, by omega, fun j hj hji => ?_, rfl⟩
      · omega
      · repeat' first | exact Env.sub_nil _ | refine Env.sub_cons (by simp) ?_
      · by_cases hj' : j = i
        · subst hj'; exact he
        · exact hno j hj (by omega)
    · have he' : inName l[i] = false := by simpa using he
      rw [show (isL l[i].toNat || isD l[i].toNat) = false from he']
      simp
      refine endp_ret rfl ⟨⟨i, rfl, ?_⟩, rfl⟩
      rw [← Bool.not_eq_true, allIn_iff]
      exact ⟨fun _ hh => he (hh i h), fun _ => by omega⟩
  · simp [h]
    refine endp_ret rfl ⟨⟨-1, rfl, ?_⟩, rfl⟩
    rw [← Bool.not_eq_true, allIn_iff]
    exact ⟨fun hh => by omega, fun hh => absurd (fun j hj => hno j hj (by omega)) hh⟩

theorem spec104 (b : Bool) (l : List UInt8) (S : St) (hl : l.length ≤ 1000000) : Fn Tryz.prog 104 [.sl b (l.map vByte), .fn (.func 105) [] []] S (.bool (!allIn l)) := by
  refine Spec.intro Tryz.func104 ok104 (by simp [c104]) ?_
  simp [c104]
  refine useSpec (spec154 b l S hl) ?_
  rintro v S' ⟨⟨i, rfl, hi⟩, rfl⟩
  simp
  refine endp_ret rfl ⟨?_, rfl⟩
  simp only [retV, hi]
  cases allIn l <;> simp
end Go.Proofs.YtbifpocccfkhhaaGreatDoor
/- Names: what is one. -/
namespace Go.Proofs.YtbifpocccfkhhaaGreatDoor
open Go

theorem spec66 (s : ByteArray) (S : St) (hl : s.size ≤ 1000000) : Spec Tryz.prog 66 [.str s, .int .i64 0] S (fun v U => (∃ i : Int, v = .int .i64 i ∧ (i = s.size ↔ allIn s.data.toList = true)) ∧ U = S) := by
  have hsz : s.data.toList.length = s.size := by simp
  refine Spec.intro Tryz.func66 ok66 (by simp [c66]) ?_
  simp [c66]
  refine WP_loop (fun n e S' => ∃ i : Nat, n = s.size - i ∧ i ≤ s.size ∧ (∀ j, (h : j < s.size) → j < i → inName (s.data[j]'h) = true) ∧ S' = S ∧
    e = [(1, .int .i64 i), (4, .int .i64 0), (0, .str s)]) s.size _ ?_ ⟨0, by simp, by omega, by omega, rfl, rfl⟩ ?_
  · repeat' first | exact Env.sub_nil _ | refine Env.sub_cons (by simp) ?_
  rintro n e S' ⟨i, rfl, hi, hno, rfl, rfl⟩
  by_cases h : i < s.size
  · have hi64 := i64_small (n := (i : Int) + 1) (by omega) (by omega)
    have hgo : ∀ (hn : inName s.data[i] = true) (j : Nat) (hj : j < s.size), j < i + 1 → inName (s.data[j]'hj) = true := fun hn j hj hji => by
      by_cases hj' : j = i
      · subst hj'; exact hn
      · exact hno j hj (by omega)
    simp [h, idxS h]
    refine useFn (spec64 _ S') ?_
    cases hL : isL (s.data[i]'h).toNat with
    | true =>
      simp [hi64]
      refine ⟨_, ?_, _, ?_, i + 1, rfl, by omega, ?_, rfl⟩
      · omega
      · repeat' first | exact Env.sub_nil _ | refine Env.sub_cons (by simp) ?_
      · have := hgo (by simp only [inName, hL, Bool.true_or])
        simpa using this
    | false =>
      simp [h, idxS h]
      refine useFn (spec116 _ S') ?_
      cases hD : isD (s.data[i]'h).toNat with
      | true =>
        simp [hi64]
        refine ⟨_, ?_, _, ?_, i + 1, rfl, by omega, ?_, rfl⟩
        · omega
        · repeat' first | exact Env.sub_nil _ | refine Env.sub_cons (by simp) ?_
        · have := hgo (by simp only [inName, hD, Bool.or_true])
          simpa using this
      | false =>
        simp
        refine endp_ret rfl ⟨⟨i, rfl, ?_⟩, rfl⟩
        constructor
        · intro hh; omega
        · intro hh
          rw [allIn_iff] at hh
          have := hh i (by omega)
          rw [Array.getElem_toList] at this
          simp only [inName, hL, hD] at this
          cases this
  · simp [h]
    refine endp_ret rfl ⟨⟨i, rfl, ?_⟩, rfl⟩
    constructor
    · intro _
      rw [allIn_iff]
      intro j hj
      have := hno j (by omega) (by omega)
      simpa using this
    · intro _; omega

def headL : List UInt8 → Bool
  | [] => false
  | c :: _ => isL c.toNat
noncomputable def nameOk (s : ByteArray) : Bool := decide (1 ≤ s.size) && decide (s.size ≤ 16) && headL s.data.toList && !isIn s wds && allIn s.data.toList

theorem size_zero {s : ByteArray} : s = ⟨⟨[]⟩⟩ ↔ s.size = 0 := by
  constructor
  · rintro rfl; rfl
  · intro h
    refine ByteArray.ext ?_
    exact Array.eq_empty_of_size_eq_zero h

theorem nameOk_at {s : ByteArray} (h1 : 0 < s.size) (h2 : s.size ≤ 16) : nameOk s = (isL (s.data[0]'h1).toNat && !isIn s wds && allIn s.data.toList) := by
  unfold nameOk
  rw [decide_eq_true (show 1 ≤ s.size from h1), decide_eq_true h2]
  have h1' : 0 < s.data.toList.length := by simpa using h1
  have : ∀ (l : List UInt8) (h : 0 < l.length), headL l = isL (l[0]).toNat := fun l h => by
    cases l with
    | nil => cases h
    | cons c cs => rfl
  rw [this _ h1', Array.getElem_toList]; rfl

theorem spec57 (s : ByteArray) (S : St) : Fn Tryz.prog 57 [.str s] S (.bool (nameOk s)) := by
  refine Spec.intro Tryz.func57 ok57 (by simp [c57]) ?_
  by_cases h0 : s.size = 0
  · have h0' := size_zero.2 h0
    simp [c57, h0']
    exact endp_ret rfl ⟨rfl, rfl⟩
  have h0' : ¬ s = ⟨⟨[]⟩⟩ := fun hh => h0 (size_zero.1 hh)
  by_cases h1 : (16 : Int) < s.size
  · simp [c57, h0', h1]
    refine endp_ret rfl ⟨?_, rfl⟩
    simp [nameOk]; omega
  have hi := idxS0 (s := s) (by omega)
  simp [c57, h0', h1, hi]
  refine useFn (spec102 _ S) ?_
  have hn := nameOk_at (s := s) (by omega) (by omega)
  cases hL : isL (s.data[0]'(Nat.pos_of_ne_zero h0)).toNat with
  | false =>
    simp
    refine endp_ret rfl ⟨?_, rfl⟩
    rw [hn, hL]; rfl
  | true =>
    simp
    refine useFn (spec103 s S) ?_
    cases hW : isIn s wds with
    | true =>
      simp
      refine endp_ret rfl ⟨?_, rfl⟩
      rw [hn, hL, hW]; rfl
    | false =>
      simp [evX, ctbV]
      refine useFn (spec104 false s.data.toList S (by rw [Array.length_toList]; have : s.data.size = s.size := rfl; omega)) ?_
      simp
      refine endp_ret rfl ⟨?_, rfl⟩
      rw [hn, hL, hW]
      simp

theorem spec21 (s : ByteArray) (S : St) : Fn Tryz.prog 21 [.str s] S (.bool (nameOk s)) := by
  refine Spec.intro Tryz.func21 ok21 (by simp [c21]) ?_
  by_cases h0 : s.size = 0
  · simp [c21, h0]
    refine endp_ret rfl ⟨?_, rfl⟩
    simp [nameOk, h0]
  by_cases h1 : (16 : Int) < s.size
  · simp [c21, h0, h1, show ¬ ((s.size : Int) < 1) by omega]
    refine endp_ret rfl ⟨?_, rfl⟩
    simp [nameOk]; omega
  have hi := idxS0 (s := s) (by omega)
  simp [c21, h0, h1, hi, show ¬ ((s.size : Int) < 1) by omega]
  refine useFn (spec64 _ S) ?_
  have hn := nameOk_at (s := s) (by omega) (by omega)
  cases hL : isL (s.data[0]'(Nat.pos_of_ne_zero h0)).toNat with
  | false =>
    simp
    refine endp_ret rfl ⟨?_, rfl⟩
    rw [hn, hL]; rfl
  | true =>
    simp
    refine useFn (spec65 s S) ?_
    cases hW : isIn s wds with
    | true =>
      simp
      refine endp_ret rfl ⟨?_, rfl⟩
      rw [hn, hL, hW]; rfl
    | false =>
      simp
      refine useSpec (spec66 s S (by omega)) ?_
      rintro v S' ⟨⟨i, rfl, hi'⟩, rfl⟩
      simp
      refine endp_ret rfl ⟨?_, rfl⟩
      rw [hn, hL, hW]
      simp only [retV, V.bool.injEq, Bool.true_and, Bool.not_false]
      rw [Bool.eq_iff_iff, ← hi']; simp
end Go.Proofs.YtbifpocccfkhhaaGreatDoor
/- Digits; the reference's fresh name. -/
namespace Go.Proofs.YtbifpocccfkhhaaGreatDoor
open Go

theorem strV_add {a b : ByteArray} (h : a.size + b.size ≤ 1000000) : strV .add a b = some (.str (a ++ b)) := by
  simp only [strV]
  rw [if_pos]
  rw [show IntKind.i64.max = 9223372036854775807 by rfl]; omega
theorem cts1 (x : Bool) (n : Int) (S : St) : ctsV S (.sl x [.int .u8 n]) = some (.str ⟨[UInt8.ofNat n.toNat].toArray⟩) := rfl
theorem cat_mk (a b : List UInt8) : (⟨a.toArray⟩ : ByteArray) ++ (⟨b.toArray⟩ : ByteArray) = ⟨(a ++ b).toArray⟩ := by
  apply ByteArray.ext
  apply Array.ext'
  simp
theorem wrapU8 {n : Int} (h0 : 0 ≤ n) (h1 : n < 256) : IntKind.u8.wrap n = n := by
  simp [IntKind.wrap, IntKind.bits, IntKind.signed]; omega

theorem dig_le (n : Nat) (h : n < 1000) : (dig n).length ≤ 4 := (dig_len (by omega)).2

theorem dig_mod (m : Nat) : IntKind.u8.wrap (IntKind.i64.wrap (48 + ((m : Int)).tmod 10)) = ((48 + m % 10 : Nat) : Int) := by
  have : ((m : Int)).tmod 10 = ((m % 10 : Nat) : Int) := by
    rw [Int.tmod_eq_emod_of_nonneg (by omega)]; omega
  rw [this, i64_small (by omega) (by omega), wrapU8 (by omega) (by omega)]; omega
def dgb (n : Nat) : UInt8 := UInt8.ofNat (48 + n % 10)
theorem dgb_eq (m : Nat) : UInt8.ofNat (IntKind.u8.wrap (IntKind.i64.wrap (48 + ((m : Int)).tmod 10))).toNat = dgb m := by rw [dig_mod]; rfl
theorem dgb_small {n : Nat} (h : n < 10) : [dgb n] = dig n := by rw [dig_small h]; unfold dgb; rw [Nat.mod_eq_of_lt h]
theorem dgb_step {n : Nat} (h : ¬ n < 10) : dig (n / 10) ++ [dgb n] = dig n := (dig_step h).symm
theorem dig_quo (m : Nat) (h : m < 1000000) : IntKind.i64.wrap ((m : Int) / 10) = ((m / 10 : Nat) : Int) := by
  rw [i64_small (by omega) (by omega)]; omega
theorem cat1 (b : UInt8) (a : List UInt8) : (⟨#[b]⟩ : ByteArray) ++ (⟨a.toArray⟩ : ByteArray) = ⟨(b :: a).toArray⟩ := cat_mk [b] a

theorem spec94 (n : Nat) (hn : n < 1000) (S : St) : Fn Tryz.prog 94 [.int .i64 n] S (.str ⟨(dig n).toArray⟩) := by
  refine Spec.intro Tryz.func94 ok94 (by simp [c94]) ?_
  simp [c94, V.size, V.cells, V.flat, fits, evX, cts1]
  rw [dgb_eq]
  refine WP_loop (fun k e S' => ∃ (m : Nat) (acc : List UInt8), k = m ∧ m ≤ n ∧ acc.length ≤ 4 ∧ (if m < 10 then acc = dig n else dig (m / 10) ++ acc = dig n) ∧ S' = S ∧
    e = [(0, .int .i64 m), (3, .str ⟨acc.toArray⟩), (2, .str ⟨⟨[]⟩⟩)]) n [(0, .int .i64 n), (3, .str ⟨[dgb n].toArray⟩), (2, .str ⟨⟨[]⟩⟩)] ?_ ⟨n, [dgb n], rfl, by omega, by simp, ?_, rfl, rfl⟩ ?_
  · repeat' first | exact Env.sub_nil _ | refine Env.sub_cons (by simp) ?_
  · split
    · rename_i h; exact dgb_small h
    · rename_i h; exact dgb_step h
  rintro m e S' ⟨_, acc, rfl, hm, hal, ha, rfl, rfl⟩
  by_cases h : m < 10
  · rw [if_pos h] at ha
    subst ha
    simp [show ¬ ((9:Int) < (m:Int)) by omega]
    exact endp_ret rfl ⟨rfl, rfl⟩
  · rw [if_neg h] at ha
    have hacc : acc.length + 1 ≤ 4 := by
      have h1 := congrArg List.length ha
      rw [List.length_append] at h1
      have h2 := dig_le n hn
      have h3 := (dig_len (n := m / 10) (by omega)).1
      omega
    simp [show ((9:Int) < (m:Int)) by omega, V.size, V.cells, V.flat, fits, evX, cts1]
    rw [dig_quo m (by omega), dgb_eq, strV_add (by simp [ByteArray.size]; omega), cat1]
    simp
    refine ⟨m / 10, ?_, _, ?_, by omega, dgb (m / 10) :: acc, by simpa using hacc, ?_, rfl⟩
    · omega
    · repeat' first | exact Env.sub_nil _ | refine Env.sub_cons (by simp) ?_
    · split
      · rename_i h'; rw [← ha, ← dgb_small h']; rfl
      · rename_i h'; rw [← ha, ← dgb_step h']; simp
end Go.Proofs.YtbifpocccfkhhaaGreatDoor
/- The reference's fresh name. -/
namespace Go.Proofs.YtbifpocccfkhhaaGreatDoor
open Go

def IsFresh (s : ByteArray) (taken : List ByteArray) (t : ByteArray) : Prop :=
  (s ∉ taken ∧ t = s) ∨ (s ∈ taken ∧ ∃ n, 1 ≤ n ∧ t = cand s n ∧ cand s n ∉ taken ∧ ∀ i, 1 ≤ i → i < n → cand s i ∈ taken)
theorem IsFresh.unique {s : ByteArray} {taken : List ByteArray} {t u : ByteArray} (h : IsFresh s taken t) (g : IsFresh s taken u) : t = u := by
  rcases h with ⟨h1, rfl⟩ | ⟨h1, n, hn, rfl, hf, ha⟩ <;> rcases g with ⟨g1, rfl⟩ | ⟨g1, m, hm, rfl, gf, gb⟩
  · rfl
  · exact absurd g1 h1
  · exact absurd h1 g1
  · have h2 : ¬ n < m := fun hlt => hf (gb n hn hlt)
    have h3 : ¬ m < n := fun hlt => gf (ha m hm hlt)
    rw [show n = m by omega]

theorem slcStr {s : ByteArray} {k : Nat} (hk : k ≤ s.size) (S : St) : sliceS S 0 (.str s) none (some (k : Int)) = some (.str (s.extract 0 k)) := by
  simp [sliceS, hk]
theorem cand_eq (s : ByteArray) (n : Nat) : s.extract 0 (min s.size (16 - (dig n).length)) ++ (⟨(dig n).toArray⟩ : ByteArray) = cand s n := by
  apply ByteArray.ext
  apply Array.ext'
  simp [cand]
theorem szDig (m : Nat) : (⟨(dig m).toArray⟩ : ByteArray).size = (dig m).length := by simp [ByteArray.size]
theorem minI (a d : Nat) (hd : d ≤ 4) : (if IntKind.i64.wrap (16 - (d : Int)) < (a : Int) then IntKind.i64.wrap (16 - (d : Int)) else (a : Int)) = ((min a (16 - d) : Nat) : Int) := by
  rw [i64_small (by omega) (by omega)]
  split <;> omega

theorem spec45 (b : Bool) (s : ByteArray) (taken : List ByteArray) (S : St) (hs : s.size ≤ 16) (ht : taken.length ≤ 500) :
    Spec Tryz.prog 45 [.str s, .sl b (taken.map .str)] S (fun v U => (∃ t, v = .str t ∧ IsFresh s taken t) ∧ U = S) := by
  refine Spec.intro Tryz.func45 ok45 (by simp [c45]) ?_
  simp [c45]
  refine useFn (spec34 b taken s S (by omega)) ?_
  cases hi : isIn s taken with
  | false =>
    simp
    exact endp_ret rfl ⟨⟨s, rfl, .inl ⟨isIn_not.1 hi, rfl⟩⟩, rfl⟩
  | true =>
    obtain ⟨N, hN1, hN2, hN3, hN4⟩ := first_free s taken ht
    simp
    refine WP_loop (fun k e S' => ∃ m : Nat, k = N - m ∧ 1 ≤ m ∧ m ≤ N ∧ S' = S ∧ e = [(5, .int .i64 m), (4, .str ⟨⟨[]⟩⟩), (0, .str s), (1, .sl b (taken.map .str))]) (N - 1) _ ?_ ⟨1, rfl, by omega, hN1, rfl, rfl⟩ ?_
    · repeat' first | exact Env.sub_nil _ | refine Env.sub_cons (by simp) ?_
    rintro k e S' ⟨m, rfl, hm1, hm2, rfl, rfl⟩
    simp
    refine useFn (spec94 m (by omega) S') ?_
    have hd := dig_le m (by omega)
    simp [evX, mmV, evInt]
    rw [szDig, minI _ _ hd, slcStr (by omega)]
    simp
    rw [strV_add (by rw [szDig]; simp; omega), cand_eq]
    simp
    refine useFn (spec34 b taken (cand s m) S' (by omega)) ?_
    cases hc : isIn (cand s m) taken with
    | false =>
      simp
      exact endp_ret rfl ⟨⟨cand s m, rfl, .inr ⟨isIn_iff.1 hi, m, hm1, rfl, isIn_not.1 hc, fun i h1 h2 => hN4 i h1 (by omega)⟩⟩, rfl⟩
    | true =>
      have hmN : m ≠ N := fun hh => hN3 (by rw [← hh]; exact isIn_iff.1 hc)
      simp
      refine ⟨_, ?_, _, ?_, m + 1, rfl, by omega, by omega, rfl⟩
      · omega
      · rw [i64_small (by omega) (by omega)]
        repeat' first | exact Env.sub_nil _ | refine Env.sub_cons (by simp) ?_
end Go.Proofs.YtbifpocccfkhhaaGreatDoor
/- The program's fresh name. -/
namespace Go.Proofs.YtbifpocccfkhhaaGreatDoor
open Go

def kv (s : ByteArray) : V × V := (.str s, .bool true)
theorem mapFind_kv (s : ByteArray) : ∀ (ks : List ByteArray) (i : Nat), (s ∉ ks ∧ mapFind .str (.str s) (ks.map kv) i = some none) ∨ (s ∈ ks ∧ ∃ j : Nat, ks[j]? = some s ∧ mapFind .str (.str s) (ks.map kv) i = some (some (i + j, .bool true)))
  | [], i => .inl ⟨by simp, rfl⟩
  | k :: ks, i => by
    simp only [List.map_cons, kv, mapFind, keyEq]
    by_cases h : s = k
    · subst h
      refine .inr ⟨by simp, 0, rfl, ?_⟩
      simp
    · have hne : (s.data.toList == k.data.toList) = false := by
        rw [beq_eq_false_iff_ne]
        intro hh
        exact h (ByteArray.ext (Array.ext' hh))
      rw [hne]
      simp only
      rcases mapFind_kv s ks (i + 1) with ⟨h1, h2⟩ | ⟨h1, j, h2, h3⟩
      · exact .inl ⟨by simp [h, h1], h2⟩
      · refine .inr ⟨by simp [h1], j + 1, by simpa using h2, ?_⟩
        rw [show i + (j + 1) = i + 1 + j by omega]
        exact h3

theorem mup_kv {S : St} {l : Nat} {ks : List ByteArray} {bs : List Nat} {ck : Nat} (s : ByteArray) (h : S[l]? = some (.map (ks.map kv) bs ck)) :
    ∃ (ks' : List ByteArray) (bs' : List Nat) (ck' : Nat), mupS S .str (.map l) (.str s) (.bool true) = some (S.set l (.map (ks'.map kv) bs' ck')) ∧ ∀ x, x ∈ ks' ↔ x ∈ ks ∨ x = s := by
  unfold mupS
  rw [if_pos (by rfl)]
  simp only [h]
  rcases mapFind_kv s ks 0 with ⟨h1, h2⟩ | ⟨h1, j, h2, h3⟩
  · rw [h2]
    refine ⟨ks ++ [s], bs ++ [ck], ck + 1, by simp [kv], fun x => by simp⟩
  · rw [h3]
    refine ⟨ks, bs, ck, ?_, fun x => ⟨.inl, fun hh => hh.elim id fun hh => hh ▸ h1⟩⟩
    simp only [Nat.zero_add]
    have : (ks.map kv).set j (.str s, .bool true) = ks.map kv := by
      apply List.ext_getElem?
      intro i
      rw [List.getElem?_set]
      split
      · rename_i hij
        subst hij
        have := (List.getElem?_eq_some_iff.1 h2).1
        have h4 := (List.getElem?_eq_some_iff.1 h2).2
        simp [kv, this, h4]
      · rfl
    rw [this]
theorem lkp_kv {S : St} {l : Nat} {ks : List ByteArray} {bs : List Nat} {ck : Nat} (s : ByteArray) (h : S[l]? = some (.map (ks.map kv) bs ck)) : lkpV S .str (.bool false) false (.map l) (.str s) = some (.bool (isIn s ks)) := by
  unfold lkpV
  rw [if_pos (by rfl)]
  simp only [mapOf, h]
  rcases mapFind_kv s ks 0 with ⟨h1, h2⟩ | ⟨h1, j, h2, h3⟩
  · rw [h2, isIn_not.2 h1]; rfl
  · rw [h3, isIn_iff.2 h1]; rfl

theorem set_same {α : Type} {l : List α} {i : Nat} {x : α} (h : l[i]? = some x) : l.set i x = l := by
  apply List.ext_getElem?
  intro j
  rw [List.getElem?_set]
  split
  · rename_i hij
    subst hij
    rw [h]
    have := (List.getElem?_eq_some_iff.1 h).1
    simp [this]
  · rfl
theorem mem_take_succ {α : Type} {l : List α} {i : Nat} (h : i < l.length) (x : α) : x ∈ l.take (i + 1) ↔ x ∈ l.take i ∨ x = l[i] := by
  rw [List.take_add_one, List.mem_append, List.getElem?_eq_getElem h, Option.toList_some, List.mem_singleton]

theorem spec79 (b : Bool) (taken : List ByteArray) (l : Nat) (S : St) (ht : taken.length ≤ 1000000) (hl : S[l]? = some (.map [] [] 0)) :
    Spec Tryz.prog 79 [.map l, .sl b (taken.map .str)] S (fun v U => ∃ (ks : List ByteArray) (bs : List Nat) (ck : Nat), U = S.set l (.map (ks.map kv) bs ck) ∧ ∀ x, x ∈ ks ↔ x ∈ taken) := by
  have hlt : l < S.length := (List.getElem?_eq_some_iff.1 hl).1
  refine Spec.intro Tryz.func79 ok79 (by simp [c79]) ?_
  simp [c79]
  refine WP_loop (fun k e S' => ∃ i : Nat, k = taken.length - i ∧ i ≤ taken.length ∧ (∃ (ks : List ByteArray) (bs : List Nat) (ck : Nat), S' = S.set l (.map (ks.map kv) bs ck) ∧ ∀ x, x ∈ ks ↔ x ∈ taken.take i) ∧
    e = [(8, .int .i64 i), (7, .int .i64 taken.length), (6, .sl b (taken.map .str)), (0, .map l), (1, .sl b (taken.map .str))]) taken.length _ ?_ ⟨0, by simp, by omega, ⟨[], [], 0, ?_, by simp⟩, rfl⟩ ?_
  · repeat' first | exact Env.sub_nil _ | refine Env.sub_cons (by simp) ?_
  · exact (set_same hl).symm
  rintro k e S' ⟨i, rfl, hi, ⟨ks, bs, ck, rfl, hk⟩, rfl⟩
  by_cases h : i < taken.length
  · obtain ⟨ks', bs', ck', hm, hk'⟩ := mup_kv (S := S.set l (.map (ks.map kv) bs ck)) (l := l) taken[i] (List.getElem?_set_self hlt)
    rw [List.set_set] at hm
    simp [h, iaStr, evX, hm]
    refine ⟨_, ?_, _, ?_, i + 1, rfl, by omega, ⟨ks', ⟨bs', ck', rfl⟩, fun x => ?_⟩, rfl⟩
    · omega
    · rw [i64_small (by omega) (by omega)]
      repeat' first | exact Env.sub_nil _ | refine Env.sub_cons (by simp) ?_
    · rw [hk', hk, mem_take_succ h]
  · simp [h]
    refine endp_normal rfl ⟨ks, ⟨bs, ck, rfl⟩, fun x => ?_⟩
    rw [hk, List.take_of_length_le (by omega)]
end Go.Proofs.YtbifpocccfkhhaaGreatDoor
/- The program's fresh name: joined; the law. -/
namespace Go.Proofs.YtbifpocccfkhhaaGreatDoor
open Go

theorem spec93 (s : ByteArray) (p l : Nat) (ks : List ByteArray) (bs : List Nat) (ck : Nat) (S : St) (hp : S[p]? = some (.arr [.map l] 1 1)) (hl : S[l]? = some (.map (ks.map kv) bs ck)) :
    Fn Tryz.prog 93 [.str s, .ptr p 0 0 1] S (.bool (isIn s ks)) := by
  refine Spec.intro Tryz.func93 ok93 (by simp [c93]) ?_
  simp [c93, ldS, hp, V.part, V.cells, evX, lkp_kv s hl]
  exact endp_ret rfl ⟨rfl, rfl⟩

theorem IsFresh.same {s : ByteArray} {ks taken : List ByteArray} {t : ByteArray} (hk : ∀ x, x ∈ ks ↔ x ∈ taken) (h : IsFresh s ks t) : IsFresh s taken t := by
  unfold IsFresh at *
  simpa only [hk] using h

theorem spec77 (s : ByteArray) (p l : Nat) (ks taken : List ByteArray) (bs : List Nat) (ck : Nat) (S : St) (hp : S[p]? = some (.arr [.map l] 1 1)) (hl : S[l]? = some (.map (ks.map kv) bs ck))
    (hk : ∀ x, x ∈ ks ↔ x ∈ taken) (hs : s.size ≤ 16) (ht : taken.length ≤ 500) :
    Spec Tryz.prog 77 [.str s, .fn (.func 93) [] [.ptr p 0 0 1]] S (fun v U => (∃ t, v = .str t ∧ IsFresh s taken t) ∧ U = S) := by
  refine Spec.intro Tryz.func77 ok77 (by simp [c77]) ?_
  simp [c77]
  refine useFn (spec93 s p l ks bs ck S hp hl) ?_
  cases hi : isIn s ks with
  | false =>
    simp
    exact endp_ret rfl ⟨⟨s, rfl, .inl ⟨fun hh => isIn_not.1 hi ((hk s).2 hh), rfl⟩⟩, rfl⟩
  | true =>
    obtain ⟨N, hN1, hN2, hN3, hN4⟩ := first_free s taken ht
    simp
    refine WP_loop (fun k e S' => ∃ m : Nat, k = N - m ∧ 1 ≤ m ∧ m ≤ N ∧ S' = S ∧ e = [(5, .int .i64 m), (4, .str ⟨⟨[]⟩⟩), (0, .str s), (1, .fn (.func 93) [] [.ptr p 0 0 1])]) (N - 1) _ ?_ ⟨1, rfl, by omega, hN1, rfl, rfl⟩ ?_
    · repeat' first | exact Env.sub_nil _ | refine Env.sub_cons (by simp) ?_
    rintro k e S' ⟨m, rfl, hm1, hm2, rfl, rfl⟩
    simp
    refine useFn (spec129 m (by omega) S') ?_
    have hd := dig_le m (by omega)
    simp [evX, mmV, evInt]
    rw [szDig, minI _ _ hd, slcStr (by omega)]
    simp
    rw [strV_add (by rw [szDig]; simp; omega), cand_eq]
    simp
    refine useFn (spec93 (cand s m) p l ks bs ck S' hp hl) ?_
    cases hc : isIn (cand s m) ks with
    | false =>
      simp
      exact endp_ret rfl ⟨⟨cand s m, rfl, .inr ⟨(hk _).1 (isIn_iff.1 hi), m, hm1, rfl, fun hh => isIn_not.1 hc ((hk _).2 hh), fun i h1 h2 => hN4 i h1 (by omega)⟩⟩, rfl⟩
    | true =>
      have hmN : m ≠ N := fun hh => hN3 (by rw [← hh]; exact (hk _).1 (isIn_iff.1 hc))
      simp
      refine ⟨_, ?_, _, ?_, m + 1, rfl, by omega, by omega, rfl⟩
      · omega
      · rw [i64_small (by omega) (by omega)]
        repeat' first | exact Env.sub_nil _ | refine Env.sub_cons (by simp) ?_

/-- What Fresh returns. -/
def FreshIs (s : ByteArray) (taken : List ByteArray) (v : V) : Prop :=
  if nameOk s = true then (if taken.length ≤ 500 then ∃ t, v = .tup [.str t, .int .i64 0] ∧ IsFresh s taken t else v = .tup [.str ⟨⟨[]⟩⟩, .int .i64 2]) else v = .tup [.str ⟨⟨[]⟩⟩, .int .i64 1]

theorem nameOk_size {s : ByteArray} (h : nameOk s = true) : s.size ≤ 16 := by
  unfold nameOk at h
  simp only [Bool.and_eq_true, decide_eq_true_eq] at h
  exact h.1.1.1.2

theorem spec44 (b : Bool) (s : ByteArray) (taken : List ByteArray) (ht : taken.length ≤ 1000000) : Spec Tryz.prog 44 [.str s, .sl b (taken.map .str)] [] (fun v U => FreshIs s taken v ∧ U = []) := by
  refine Spec.intro Tryz.func44 ok44 (by simp [c44]) ?_
  simp [c44]
  refine useFn (spec57 s []) ?_
  cases hn : nameOk s with
  | false =>
    simp
    refine endp_ret rfl ⟨?_, rfl⟩
    simp [FreshIs, hn]
  | true =>
    simp
    by_cases hl : taken.length ≤ 500
    · simp [show ¬ ((500 : Int) < taken.length) by omega, evX, boxS, V.cells, V.flat, V.size, stS, V.upd, V.isAgg, ldS, V.part]
      refine useSpec (spec79 b taken 0 [.map [] [] 0, .arr [.map 0] 1 1] ht rfl) ?_
      rintro v U ⟨ks, bs, ck, rfl, hk⟩
      simp
      refine useSpec (spec77 s 1 0 ks taken bs ck [.map (ks.map kv) bs ck, .arr [.map 0] 1 1] rfl rfl hk (nameOk_size hn) hl) ?_
      rintro v U ⟨⟨t, rfl, hf⟩, rfl⟩
      simp
      refine ⟨_, rfl, .tup [.str t, .int .i64 0], [], ?_, ?_, rfl⟩
      · exact Ghost.cut (m := 0) rfl (by simp) (Nat.le_refl _) (Nat.zero_le _)
      · simp only [FreshIs, hn, if_pos hl, if_true]
        exact ⟨t, rfl, hf⟩
    · simp [show (500 : Int) < taken.length by omega]
      refine endp_ret rfl ⟨?_, rfl⟩
      simp [FreshIs, hn, hl]

theorem spec18 (S : St) : Fn Tryz.prog 18 [] S (.bool true) := sane_ok S

theorem spec13 (b : Bool) (s : ByteArray) (taken : List ByteArray) : Fn Tryz.prog 13 [.str s, .sl b (taken.map .str)] [] (.bool true) := by
  refine Spec.intro Tryz.func13 ok13 (by simp [c13]) ?_
  by_cases hl : taken.length ≤ 520
  · simp [c13, show ¬ ((520 : Int) < taken.length) by omega]
    refine useSpec (spec44 b s taken (by omega)) ?_
    rintro v U ⟨hv, rfl⟩
    unfold FreshIs at hv
    by_cases hn : nameOk s = true
    · rw [if_pos hn] at hv
      by_cases h5 : taken.length ≤ 500
      · rw [if_pos h5] at hv
        obtain ⟨t, rfl, hf⟩ := hv
        simp
        refine useFn (spec21 s []) ?_
        rw [hn]
        simp [show ¬ ((500 : Int) < taken.length) by omega]
        refine useFn (spec18 []) ?_
        simp
        refine useSpec (spec45 b s taken [] (nameOk_size hn) h5) ?_
        rintro v U ⟨⟨u, rfl, hu⟩, rfl⟩
        simp
        refine endp_ret rfl ⟨?_, rfl⟩
        simp [hf.unique hu]
      · rw [if_neg h5] at hv
        subst hv
        simp
        refine useFn (spec21 s []) ?_
        rw [hn]
        simp [show ((500 : Int) < taken.length) by omega]
        refine useFn (spec18 []) ?_
        simp
        exact endp_ret rfl ⟨rfl, rfl⟩
    · rw [if_neg hn] at hv
      subst hv
      simp
      refine useFn (spec21 s []) ?_
      rw [show nameOk s = false by simpa using hn]
      simp
      refine useFn (spec18 []) ?_
      simp
      exact endp_ret rfl ⟨rfl, rfl⟩
  · simp [c13, show (520 : Int) < taken.length by omega]
    refine useFn (spec18 []) ?_
    simp
    exact endp_ret rfl ⟨rfl, rfl⟩
end Go.Proofs.YtbifpocccfkhhaaGreatDoor
