/- Lists, trees and values for fast runs: written with recursors, as the kernel likes it. -/
import Derived.Test.YtbifpocccfkhhaaGreatDoorLaf
namespace Go.Proofs.YtbifpocccfkhhaaGreatDoor
open Go

noncomputable def nthR {α : Type} (l : List α) : Nat → Option α := List.rec (motive := fun _ => Nat → Option α) (fun _ => none) (fun x _ ih n => Nat.rec (some x) (fun m _ => ih m) n) l
theorem nthR_eq {α : Type} : ∀ (l : List α) (n : Nat), nthR l n = l[n]?
  | [], n => by simp [nthR]
  | x :: xs, 0 => rfl
  | x :: xs, n + 1 => by rw [List.getElem?_cons_succ, ← nthR_eq xs n]; rfl

noncomputable def lenR {α : Type} (l : List α) : Nat := List.rec (motive := fun _ => Nat → Nat) (fun n => n) (fun _ _ ih n => ih (Nat.succ n)) l 0
theorem lenR_go {α : Type} : ∀ (l : List α) (n : Nat), (List.rec (motive := fun _ => Nat → Nat) (fun n => n) (fun _ _ ih n => ih (Nat.succ n)) l n : Nat) = l.length + n
  | [], n => by simp
  | x :: xs, n => by
    show (List.rec (motive := fun _ => Nat → Nat) (fun n => n) (fun _ _ ih n => ih (Nat.succ n)) xs (Nat.succ n) : Nat) = _
    rw [lenR_go xs]; simp; omega
theorem lenR_eq {α : Type} (l : List α) : lenR l = l.length := by unfold lenR; rw [lenR_go]; rfl

noncomputable def setR {α : Type} (x : α) (l : List α) : Nat → List α := List.rec (motive := fun _ => Nat → List α) (fun _ => []) (fun y ys ih n => Nat.rec (x :: ys) (fun m _ => y :: ih m) n) l
theorem setR_eq {α : Type} (x : α) : ∀ (l : List α) (n : Nat), setR x l n = l.set n x
  | [], n => by simp [setR]
  | y :: ys, 0 => rfl
  | y :: ys, n + 1 => by rw [List.set_cons_succ, ← setR_eq x ys n]; rfl

noncomputable def appR {α : Type} (l m : List α) : List α := List.rec m (fun x _ ih => x :: ih) l
theorem appR_eq {α : Type} : ∀ (l m : List α), appR l m = l ++ m
  | [], m => rfl
  | x :: xs, m => by rw [List.cons_append, ← appR_eq xs m]; rfl

noncomputable def takeR {α : Type} (l : List α) : Nat → List α := List.rec (motive := fun _ => Nat → List α) (fun _ => []) (fun y _ ih n => Nat.rec [] (fun m _ => y :: ih m) n) l
theorem takeR_eq {α : Type} : ∀ (l : List α) (n : Nat), takeR l n = l.take n
  | [], n => by simp [takeR]
  | y :: ys, 0 => rfl
  | y :: ys, n + 1 => by rw [List.take_succ_cons, ← takeR_eq ys n]; rfl

noncomputable def dropR {α : Type} (l : List α) : Nat → List α := List.rec (motive := fun _ => Nat → List α) (fun _ => []) (fun y ys ih n => Nat.rec (y :: ys) (fun m _ => ih m) n) l
theorem dropR_eq {α : Type} : ∀ (l : List α) (n : Nat), dropR l n = l.drop n
  | [], n => by simp [dropR]
  | y :: ys, 0 => rfl
  | y :: ys, n + 1 => by rw [List.drop_succ_cons, ← dropR_eq ys n]; rfl

/-- Conjunction, from the left. -/
noncomputable def andR (a b : Bool) : Bool := Bool.rec false b a
theorem andR_eq (a b : Bool) : andR a b = (a && b) := by cases a <;> rfl
noncomputable def iteR {α : Type} (c : Bool) (a b : α) : α := Bool.rec b a c
theorem iteR_eq {α : Type} (c : Bool) (a b : α) : iteR c a b = if c = true then a else b := by cases c <;> rfl

noncomputable def allR {α : Type} (f : α → Bool) (l : List α) : Bool := List.rec true (fun x _ ih => Bool.rec false ih (f x)) l
theorem allR_eq {α : Type} (f : α → Bool) : ∀ (l : List α), allR f l = l.all f
  | [] => rfl
  | x :: xs => by
    rw [List.all_cons, ← allR_eq f xs]
    show (Bool.rec false (allR f xs) (f x) : Bool) = _
    cases f x <;> rfl

noncomputable def mapR {α β : Type} (f : α → β) (l : List α) : List β := List.rec [] (fun x _ ih => f x :: ih) l
theorem mapR_eq {α β : Type} (f : α → β) : ∀ (l : List α), mapR f l = l.map f
  | [] => rfl
  | x :: xs => by rw [List.map_cons, ← mapR_eq f xs]; rfl

/-- A place of a tree. -/
noncomputable def pathF (f : Nat) : Nat → List Bool := Nat.rec (motive := fun _ => Nat → List Bool) (fun _ => []) (fun _ ih n => Nat.rec [] (fun m _ => Nat.beq (Nat.mod m 2) 1 :: ih (Nat.div m 2)) n) f
noncomputable def path (n : Nat) : List Bool := pathF n n

theorem pathF_inj : ∀ (f g n m : Nat), n ≤ f → m ≤ g → pathF f n = pathF g m → n = m
  | f, g, 0, 0, _, _, _ => rfl
  | f, g + 1, 0, m + 1, _, _, h => by
    have h1 : pathF f 0 = [] := by cases f <;> rfl
    rw [h1] at h
    exact absurd h (by show [] ≠ _ :: _; simp)
  | f + 1, g, n + 1, 0, _, _, h => by
    have h1 : pathF g 0 = [] := by cases g <;> rfl
    rw [h1] at h
    exact absurd h (by show _ :: _ ≠ []; simp)
  | f + 1, g + 1, n + 1, m + 1, hn, hm, h => by
    have h' : (Nat.beq (Nat.mod n 2) 1 :: pathF f (Nat.div n 2)) = (Nat.beq (Nat.mod m 2) 1 :: pathF g (Nat.div m 2)) := h
    simp only [List.cons.injEq] at h'
    obtain ⟨h1, h2⟩ := h'
    have h3 : n / 2 = m / 2 := pathF_inj f g (n / 2) (m / 2) (by omega) (by omega) h2
    have h4 : (n % 2 = 1 ↔ m % 2 = 1) := by
      have : (Nat.beq (n % 2) 1 = true ↔ Nat.beq (m % 2) 1 = true) := by
        show (Nat.beq (Nat.mod n 2) 1 = true ↔ Nat.beq (Nat.mod m 2) 1 = true)
        rw [h1]
      simpa using this
    omega
theorem path_inj {n m : Nat} (h : path n = path m) : n = m := pathF_inj n m n m (Nat.le_refl _) (Nat.le_refl _) h

inductive Tx (α : Type) where
  | nil
  | node (v : Option α) (l r : Tx α)

noncomputable def Tx.get {α : Type} (p : List Bool) : Tx α → Option α := List.rec (motive := fun _ => Tx α → Option α) (fun t => Tx.rec none (fun v _ _ _ _ => v) t) (fun b _ ih t => Tx.rec none (fun _ l r _ _ => ih (Bool.rec l r b)) t) p
noncomputable def Tx.put {α : Type} (x : α) (p : List Bool) : Tx α → Tx α := List.rec (motive := fun _ => Tx α → Tx α) (fun t => Tx.rec (.node (some x) .nil .nil) (fun _ l r _ _ => .node (some x) l r) t)
  (fun b _ ih t => Tx.rec (Bool.rec (.node none (ih .nil) .nil) (.node none .nil (ih .nil)) b) (fun v l r _ _ => Bool.rec (.node v (ih l) r) (.node v l (ih r)) b) t) p

theorem Tx.get_put_same {α : Type} (x : α) : ∀ (p : List Bool) (t : Tx α), (Tx.put x p t).get p = some x
  | [], t => by cases t <;> rfl
  | b :: p, t => by
    cases t with
    | nil => cases b <;> exact Tx.get_put_same x p .nil
    | node v l r => cases b <;> first | exact Tx.get_put_same x p l | exact Tx.get_put_same x p r

theorem Tx.get_nil {α : Type} : ∀ (p : List Bool), (Tx.nil : Tx α).get p = none
  | [] => rfl
  | b :: p => rfl

theorem Tx.get_put_ne {α : Type} (x : α) : ∀ (p q : List Bool) (t : Tx α), p ≠ q → (Tx.put x p t).get q = t.get q
  | [], [], t, h => absurd rfl h
  | [], b :: q, t, _ => by cases t <;> cases b <;> first | rfl | exact Tx.get_nil q
  | b :: p, [], t, _ => by cases t <;> cases b <;> rfl
  | b :: p, c :: q, t, h => by
    have hn : b = c → p ≠ q := fun hb hp => h (by rw [hb, hp])
    cases t with
    | nil => cases b <;> cases c <;> first
      | exact (Tx.get_put_ne x p q .nil (hn rfl)).trans (Tx.get_nil q)
      | exact Tx.get_nil q
    | node v l r => cases b <;> cases c <;> first
      | exact Tx.get_put_ne x p q l (hn rfl)
      | exact Tx.get_put_ne x p q r (hn rfl)
      | rfl

/-- The temporaries in a tree. -/
abbrev TE := Tx V
def TE.sub (t : TE) (e : Env) : Prop := ∀ k v, Tx.get (path k) t = some v → e.get k = some v
noncomputable def TE.put (t : TE) (d : Option Nat) (v : V) : TE := Option.rec t (fun k => Tx.put v (path k) t) d
theorem TE.sub_put {t : TE} {e : Env} (h : t.sub e) (d : Option Nat) (v : V) : (TE.put t d v).sub (e.put d v) := by
  cases d with
  | none => exact h
  | some k =>
    intro j w hj
    simp only [Env.put, Env.get]
    by_cases hk : k = j
    · subst hk
      rw [if_pos rfl]
      have := hj.symm.trans (Tx.get_put_same v (path k) t)
      exact this.symm
    · rw [if_neg hk]
      exact h j w ((Tx.get_put_ne v (path k) (path j) t (fun hp => hk (path_inj hp))).symm.trans hj)

/-- The store in a tree. -/
structure TS where
  len : Nat
  tr : Tx Ob
/-- What a run sees of an object: of a loop's record the state alone. -/
def Ob.sk : Ob → Ob
  | .loop i => .loop ⟨i.st, i.pend, [], .skip, .skip, [], 0⟩
  | o => o
theorem sk_arr {S : St} {l sz wr : Nat} {xs : List V} (h : (S[l]?).map Ob.sk = some (.arr xs sz wr)) : S[l]? = some (.arr xs sz wr) := by
  cases ho : S[l]? with
  | none => rw [ho] at h; cases h
  | some o => rw [ho] at h; cases o <;> simp only [Option.map_some, Ob.sk, Option.some.injEq, reduceCtorEq] at h; rw [h]
theorem sk_map {S : St} {l ck : Nat} {es : List (V × V)} {bs : List Nat} (h : (S[l]?).map Ob.sk = some (.map es bs ck)) : S[l]? = some (.map es bs ck) := by
  cases ho : S[l]? with
  | none => rw [ho] at h; cases h
  | some o => rw [ho] at h; cases o <;> simp only [Option.map_some, Ob.sk, Option.some.injEq, reduceCtorEq] at h; rw [h]
theorem sk_iter {S : St} {l lm since last : Nat} {seen : List Nat} (h : (S[l]?).map Ob.sk = some (.iter lm since seen last)) : S[l]? = some (.iter lm since seen last) := by
  cases ho : S[l]? with
  | none => rw [ho] at h; cases h
  | some o => rw [ho] at h; cases o <;> simp only [Option.map_some, Ob.sk, Option.some.injEq, reduceCtorEq] at h; rw [h]
theorem sk_loop {S : St} {l : Nat} {i : LI} (h : (S[l]?).map Ob.sk = some (.loop i)) : ∃ j, S[l]? = some (.loop j) ∧ j.st = i.st ∧ j.pend = i.pend := by
  cases ho : S[l]? with
  | none => rw [ho] at h; cases h
  | some o =>
    rw [ho] at h
    cases o <;> simp only [Option.map_some, Ob.sk, Option.some.injEq, reduceCtorEq, Ob.loop.injEq] at h
    exact ⟨_, rfl, by rw [← h], by rw [← h]⟩
def TS.Abs (t : TS) (S : St) : Prop := S.length = t.len ∧ ∀ l, l < t.len → t.tr.get (path l) = (S[l]?).map Ob.sk

noncomputable def TS.get (t : TS) (l : Nat) (c : Ob → Bool) : Bool := Bool.rec false (Option.rec false c (t.tr.get (path l))) (Nat.ble (Nat.succ l) t.len)
theorem TS.get_spec {t : TS} {S : St} {l : Nat} {c : Ob → Bool} (h : t.Abs S) (hc : t.get l c = true) : ∃ o, (S[l]?).map Ob.sk = some o ∧ c o = true := by
  unfold TS.get at hc
  cases hb : Nat.ble (Nat.succ l) t.len with
  | false => rw [hb] at hc; cases hc
  | true =>
    rw [hb] at hc
    have hlt : l < t.len := Nat.le_of_ble_eq_true hb
    cases hg : t.tr.get (path l) with
    | none => rw [hg] at hc; cases hc
    | some o => rw [hg] at hc; exact ⟨o, (h.2 l hlt).symm.trans hg, hc⟩
noncomputable def TS.set (t : TS) (l : Nat) (o : Ob) : TS := ⟨t.len, t.tr.put o (path l)⟩
theorem TS.set_abs' {t : TS} {S : St} {l : Nat} {o o' o1 : Ob} (h : t.Abs S) (hl : S[l]? = some o') (hk : o1.sk = o) : (t.set l o).Abs (S.set l o1) := by
  subst hk
  have hlt : l < S.length := (List.getElem?_eq_some_iff.1 hl).1
  refine ⟨by simp [TS.set, h.1], fun j hj => ?_⟩
  simp only [TS.set] at hj ⊢
  by_cases hk : l = j
  · subst hk
    rw [Tx.get_put_same, List.getElem?_set_self hlt]; rfl
  · rw [Tx.get_put_ne _ _ _ _ (fun hp => hk (path_inj hp)), List.getElem?_set_ne hk]
    exact h.2 j hj
noncomputable def forceN (m : Nat) (c : Nat → Bool) : Bool := Nat.rec (c 0) (fun k _ => c (Nat.succ k)) m
theorem forceN_eq (m : Nat) (c : Nat → Bool) : forceN m c = c m := by cases m <;> rfl
noncomputable def TS.push (t : TS) (o : Ob) : TS := ⟨Nat.succ t.len, t.tr.put o (path t.len)⟩
theorem TS.push_abs' {t : TS} {S : St} {o o1 : Ob} (h : t.Abs S) (hk : o1.sk = o) : (t.push o).Abs (S ++ [o1]) := by
  subst hk
  refine ⟨by simp [TS.push, h.1], fun j hj => ?_⟩
  simp only [TS.push] at hj ⊢
  by_cases hk : t.len = j
  · subst hk
    rw [Tx.get_put_same, ← h.1]; simp
  · rw [Tx.get_put_ne _ _ _ _ (fun hp => hk (path_inj hp)), h.2 j (by omega), List.getElem?_append_left (by rw [h.1]; omega)]

theorem TS.set_abs {t : TS} {S : St} {l : Nat} {o o' : Ob} (h : t.Abs S) (hl : S[l]? = some o') (hk : o.sk = o := by rfl) : (t.set l o).Abs (S.set l o) := TS.set_abs' h hl hk
theorem TS.push_abs {t : TS} {S : St} {o : Ob} (h : t.Abs S) (hk : o.sk = o := by rfl) : (t.push o).Abs (S ++ [o]) := TS.push_abs' h hk

/-! Values. -/
noncomputable def sizeR (v : V) : Nat := lenR v.cells
theorem sizeR_eq (v : V) : sizeR v = v.size := lenR_eq _
noncomputable def flatsR (l : List V) : Bool := allR V.flat l
theorem flatsR_eq (l : List V) : flatsR l = l.all V.flat := allR_eq _ _

noncomputable def bytesEqR (a : List UInt8) : List UInt8 → Bool := List.rec (motive := fun _ => List UInt8 → Bool) (fun b => List.rec true (fun _ _ _ => false) b) (fun x _ ih b => List.rec false (fun y ys _ => Bool.rec false (ih ys) (Nat.beq x.toNat y.toNat)) b) a
theorem u8_beq (x y : UInt8) : Nat.beq x.toNat y.toNat = (x == y) := by
  rw [Bool.eq_iff_iff]
  simp
  exact ⟨fun h => UInt8.toNat_inj.1 h, fun h => by rw [h]⟩
theorem bytesEqR_eq : ∀ (a b : List UInt8), bytesEqR a b = (a == b)
  | [], [] => rfl
  | [], _ :: _ => rfl
  | _ :: _, [] => rfl
  | x :: xs, y :: ys => by
    show (Bool.rec false (bytesEqR xs ys) (Nat.beq x.toNat y.toNat) : Bool) = _
    rw [bytesEqR_eq xs ys, u8_beq]
    rw [List.cons_beq_cons]
    cases (x == y) <;> rfl
noncomputable def strEqR (a b : ByteArray) : Bool := bytesEqR a.data.toList b.data.toList
theorem toList_loop (bs : ByteArray) : ∀ (k i : Nat) (r : List UInt8), bs.size - i ≤ k → ByteArray.toList.loop bs i r = r.reverse ++ bs.data.toList.drop i
  | k, i, r, hk => by
    unfold ByteArray.toList.loop
    split
    · rename_i hi
      cases k with
      | zero => omega
      | succ k =>
        rw [toList_loop bs k (i + 1) _ (by omega)]
        have hi' : i < bs.data.toList.length := by simpa using hi
        rw [List.reverse_cons, List.append_assoc, List.drop_eq_getElem_cons hi']
        congr 1
        simp only [List.singleton_append, List.cons.injEq, and_true]
        have hi2 : i < bs.data.size := hi
        show bs.data[i]! = bs.data.toList[i]
        rw [getElem!_pos bs.data i hi2]; simp
    · rename_i hi
      rw [List.drop_eq_nil_of_le (by simpa using Nat.le_of_not_lt hi)]; simp
theorem toList_data (bs : ByteArray) : bs.toList = bs.data.toList := by
  unfold ByteArray.toList
  rw [toList_loop bs _ 0 [] (Nat.le_refl _)]; simp
theorem data_beq (a b : ByteArray) : (a.data.toList == b.data.toList) = strEq a b := by
  unfold strEq; rw [toList_data, toList_data]
theorem strEqR_eq (a b : ByteArray) : strEqR a b = strEq a b := by unfold strEqR; rw [bytesEqR_eq, data_beq]
end Go.Proofs.YtbifpocccfkhhaaGreatDoor
/- Operations for fast runs. -/
namespace Go.Proofs.YtbifpocccfkhhaaGreatDoor
open Go

noncomputable def optR {α : Type} (o : Option α) (c : α → Bool) : Bool := Option.rec false c o
theorem optR_spec {α : Type} {o : Option α} {c : α → Bool} (h : optR o c = true) : ∃ v, o = some v ∧ c v = true := by
  cases o with
  | none => cases h
  | some v => exact ⟨v, rfl, h⟩
theorem andR_spec {a b : Bool} (h : andR a b = true) : a = true ∧ b = true := by rw [andR_eq, Bool.and_eq_true] at h; exact h
theorem guard_spec {a b : Bool} (h : iteR a b false = true) : a = true ∧ b = true := by cases a <;> first | exact ⟨rfl, h⟩ | cases h
theorem ble_spec {a b : Nat} (h : Nat.ble a b = true) : a ≤ b := Nat.le_of_ble_eq_true h
theorem beq_spec {a b : Nat} (h : Nat.beq a b = true) : a = b := Nat.eq_of_beq_eq_true h

noncomputable def opd (x : Opd) (tr : TE) (c : V → Bool) : Bool := Opd.rec (fun n => optR (Tx.get (path n) tr) c) (fun v => c v) (fun f => c (.fn (.func f) [] [])) x
theorem opd_spec {x : Opd} {tr : TE} {e : Env} {c : V → Bool} (ht : tr.sub e) (h : opd x tr c = true) : ∃ v, x.ev e = some v ∧ c v = true := by
  cases x with
  | t n =>
    obtain ⟨v, h1, h2⟩ := optR_spec (show optR (Tx.get (path n) tr) c = true from h)
    exact ⟨v, ht n v h1, h2⟩
  | c v => exact ⟨v, rfl, h⟩
  | f k => exact ⟨_, rfl, h⟩

noncomputable def evsR (xs : List Opd) (tr : TE) : (List V → Bool) → Bool := List.rec (motive := fun _ => (List V → Bool) → Bool) (fun c => c []) (fun x _ ih c => opd x tr fun v => ih fun vs => c (v :: vs)) xs
theorem evsR_spec {tr : TE} {e : Env} (ht : tr.sub e) : ∀ {xs : List Opd} {c : List V → Bool}, evsR xs tr c = true → ∃ vs, evs e xs = some vs ∧ c vs = true
  | [], c, h => ⟨[], rfl, h⟩
  | x :: xs, c, h => by
    obtain ⟨v, h1, h2⟩ := opd_spec (c := fun v => evsR xs tr fun vs => c (v :: vs)) ht h
    obtain ⟨vs, h3, h4⟩ := evsR_spec ht h2
    exact ⟨v :: vs, by simp only [evs, h1, h3], h4⟩

/-- What an operation yields is done with. -/
def Done (e : Env) (S : St) (k : K) (c : V → TS → Bool) : Prop := ∃ r S' ts', evK e S k = some (r, S') ∧ ts'.Abs S' ∧ c r ts' = true

/-! Integers. -/
noncomputable def wrapR (k : IntKind) (x : Int) : Int := Int.rec (fun m => IntKind.rec (k.wrap (Int.ofNat m)) (k.wrap (Int.ofNat m)) (k.wrap (Int.ofNat m)) (iteR (Nat.ble m 9223372036854775807) (Int.ofNat m) (k.wrap (Int.ofNat m))) (k.wrap (Int.ofNat m)) (k.wrap (Int.ofNat m)) (k.wrap (Int.ofNat m)) (k.wrap (Int.ofNat m)) k) (fun m => k.wrap (Int.negSucc m)) x
theorem wrapR_eq (k : IntKind) (x : Int) : wrapR k x = k.wrap x := by
  cases x with
  | negSucc m => rfl
  | ofNat m =>
    cases k <;> try rfl
    show iteR (Nat.ble m 9223372036854775807) (Int.ofNat m) (IntKind.i64.wrap (Int.ofNat m)) = _
    rw [iteR_eq]
    split
    · rename_i h
      have := ble_spec h
      have h1 : (Int.ofNat m) % (2 ^ IntKind.i64.bits : Int) = Int.ofNat m := Int.emod_eq_of_lt (by simp) (by show (m : Int) < 2 ^ 64; omega)
      have h2 : ¬ ((m : Int) ≥ 2 ^ 63) := by omega
      unfold IntKind.wrap
      simp only [h1]
      rw [if_neg]
      intro hh
      rw [Bool.and_eq_true, decide_eq_true_iff] at hh
      exact h2 hh.2
    · rfl
noncomputable def addR (a b : Int) : Int := Int.rec (fun m => Int.rec (fun n => Int.ofNat (Nat.add m n)) (fun _ => a + b) b) (fun _ => a + b) a
theorem addR_eq (a b : Int) : addR a b = a + b := by cases a <;> cases b <;> rfl
noncomputable def subR (a b : Int) : Int := Int.rec (fun m => Int.rec (fun n => iteR (Nat.ble n m) (Int.ofNat (Nat.sub m n)) (a - b)) (fun _ => a - b) b) (fun _ => a - b) a
theorem subR_eq (a b : Int) : subR a b = a - b := by
  cases a <;> cases b <;> try rfl
  rename_i m n
  show iteR (Nat.ble n m) (Int.ofNat (Nat.sub m n)) (Int.ofNat m - Int.ofNat n) = _
  rw [iteR_eq]
  split
  · rename_i h
    have := ble_spec h
    show ((m - n : Nat) : Int) = (m : Int) - (n : Int)
    omega
  · rfl
noncomputable def mulR (a b : Int) : Int := Int.rec (fun m => Int.rec (fun n => Int.ofNat (Nat.mul m n)) (fun _ => a * b) b) (fun _ => a * b) a
theorem mulR_eq (a b : Int) : mulR a b = a * b := by cases a <;> cases b <;> rfl
noncomputable def ltR (a b : Int) : Bool := Int.rec (fun m => Int.rec (fun n => Nat.ble (Nat.succ m) n) (fun _ => false) b) (fun m => Int.rec (fun _ => true) (fun n => Nat.ble (Nat.succ n) m) b) a
theorem ble_iff {a b : Nat} : Nat.ble a b = true ↔ a ≤ b := ⟨ble_spec, fun h => Nat.ble_eq_true_of_le h⟩
theorem ltR_eq (a b : Int) : ltR a b = decide (a < b) := by
  rw [Bool.eq_iff_iff, decide_eq_true_iff]
  cases a with
  | ofNat m => cases b with
    | ofNat n => show Nat.ble (Nat.succ m) n = true ↔ _; rw [ble_iff]; simp; omega
    | negSucc n => show false = true ↔ _; simp; omega
  | negSucc m => cases b with
    | ofNat n => show true = true ↔ _; simp; omega
    | negSucc n => show Nat.ble (Nat.succ n) m = true ↔ _; rw [ble_iff]; simp [Int.negSucc_eq]; omega
noncomputable def eqR (a b : Int) : Bool := Int.rec (fun m => Int.rec (fun n => Nat.beq m n) (fun _ => false) b) (fun m => Int.rec (fun _ => false) (fun n => Nat.beq m n) b) a
theorem eqR_eq (a b : Int) : eqR a b = decide (a = b) := by
  rw [Bool.eq_iff_iff, decide_eq_true_iff]
  cases a with
  | ofNat m => cases b with
    | ofNat n => show Nat.beq m n = true ↔ _; rw [Nat.beq_eq]; exact ⟨fun h => by rw [h], fun h => Int.ofNat.inj h⟩
    | negSucc n => show false = true ↔ _; simp
  | negSucc m => cases b with
    | ofNat n => show false = true ↔ _; simp
    | negSucc n => show Nat.beq m n = true ↔ _; simp
noncomputable def quoR (a b : Int) : Int := Int.rec (fun m => Int.rec (fun n => Int.ofNat (Nat.div m n)) (fun _ => a.tdiv b) b) (fun _ => a.tdiv b) a
theorem quoR_eq (a b : Int) : quoR a b = a.tdiv b := by cases a <;> cases b <;> rfl
noncomputable def remR (a b : Int) : Int := Int.rec (fun m => Int.rec (fun n => Int.ofNat (Nat.mod m n)) (fun _ => a.tmod b) b) (fun _ => a.tmod b) a
theorem remR_eq (a b : Int) : remR a b = a.tmod b := by cases a <;> cases b <;> rfl

noncomputable def notR (b : Bool) : Bool := Bool.rec true false b
theorem notR_eq (b : Bool) : notR b = !b := by cases b <;> rfl

noncomputable def intVR (op : BinOp) (k : IntKind) (a b : Int) : Option V :=
  match op with
  | .add => some (.int k (wrapR k (addR a b)))
  | .sub => some (.int k (wrapR k (subR a b)))
  | .mul => some (.int k (wrapR k (mulR a b)))
  | .quo => iteR (eqR b 0) none (some (.int k (wrapR k (quoR a b))))
  | .rem => iteR (eqR b 0) none (some (.int k (remR a b)))
  | .eql => some (.bool (eqR a b))
  | .neq => some (.bool (notR (eqR a b)))
  | .lss => some (.bool (ltR a b))
  | .leq => some (.bool (notR (ltR b a)))
  | .gtr => some (.bool (ltR b a))
  | .geq => some (.bool (notR (ltR a b)))
  | op => intV op k a b
theorem intVR_eq (op : BinOp) (k : IntKind) (a b : Int) : intVR op k a b = intV op k a b := by
  cases op <;> simp only [intVR, intV, wrapR_eq, addR_eq, subR_eq, mulR_eq, eqR_eq, ltR_eq, notR_eq, quoR_eq, remR_eq, iteR_eq, decide_eq_true_eq]
  all_goals first
    | rfl
    | (congr 2; rw [← decide_not]; congr 1; simp)

noncomputable def strVR (op : BinOp) (a b : ByteArray) : Option V :=
  match op with
  | .eql => some (.bool (strEqR a b))
  | .neq => some (.bool (notR (strEqR a b)))
  | op => strV op a b
theorem strVR_eq (op : BinOp) (a b : ByteArray) : strVR op a b = strV op a b := by
  cases op <;> simp only [strVR, strV, strEqR_eq, notR_eq]

noncomputable def kindEq (k k' : IntKind) : Bool := Nat.beq (IntKind.rec 0 1 2 3 4 5 6 7 k) (IntKind.rec 0 1 2 3 4 5 6 7 k')
theorem kindEq_spec {k k' : IntKind} (h : kindEq k k' = true) : k = k' := by cases k <;> cases k' <;> first | rfl | cases h

noncomputable def isSh (op : BinOp) : Bool := match op with | .shl => true | .shr => true | _ => false
noncomputable def binR (op : BinOp) (x y : V) (c : V → Bool) : Bool :=
  match x with
  | .int k a => match y with
    | .int k' b => iteR (isSh op) (optR (shV op k a b) c) (iteR (kindEq k k') (optR (intVR op k a b) c) false)
    | _ => false
  | .str a => match y with
    | .str b => optR (strVR op a b) c
    | _ => false
  | _ => false
theorem binR_spec {op : BinOp} {x y : V} {c : V → Bool} (h : binR op x y c = true) : ∃ r, binV op x y = some r ∧ c r = true := by
  unfold binR at h
  split at h
  · split at h
    · rename_i k a k' b
      rw [iteR_eq] at h
      simp only [binV]
      split at h
      · rename_i hs
        rw [if_pos (by cases op <;> simp [isSh] at hs ⊢)]
        exact optR_spec h
      · rename_i hs
        obtain ⟨h1, h2⟩ := guard_spec h
        rw [if_neg (by cases op <;> simp [isSh] at hs ⊢), if_pos (kindEq_spec h1)]
        rw [intVR_eq] at h2
        exact optR_spec h2
    · cases h
  · split at h
    · rw [strVR_eq] at h; exact optR_spec h
    · cases h
  · cases h

/-! Parts of values. -/
noncomputable def partR (v : V) (off : Nat) (k : Option Nat) : Option V :=
  Option.rec (nthR v.cells off) (fun n => iteR (andR (Nat.beq off 0) (andR (Nat.beq n (sizeR v)) v.isAgg)) (some v) (match v with
    | .agg cs => iteR (Nat.ble (Nat.add off n) (lenR cs)) (some (.agg (takeR (dropR cs off) n))) none
    | _ => none)) k
theorem beq_iff' {a b : Nat} : Nat.beq a b = true ↔ a = b := ⟨beq_spec, fun h => by subst h; simp⟩
theorem partR_eq (v : V) (off : Nat) (k : Option Nat) : partR v off k = v.part off k := by
  cases k with
  | none => exact nthR_eq _ _
  | some n =>
    show iteR (andR (Nat.beq off 0) (andR (Nat.beq n (sizeR v)) v.isAgg)) (some v) _ = _
    simp only [V.part, iteR_eq, andR_eq, Bool.and_eq_true, beq_iff', sizeR_eq]
    split
    · rfl
    · split
      · rename_i cs
        rw [lenR_eq, takeR_eq, dropR_eq]
        simp only [ble_iff]
        rfl
      · rename_i hne
        cases v <;> first | rfl | exact absurd rfl (hne _)

noncomputable def updR (v : V) (off n : Nat) (x : V) : Option V :=
  iteR (andR (Nat.beq (sizeR x) n) (flatsR x.cells)) (iteR (andR (Nat.beq off 0) (Nat.beq n (sizeR v))) (some x) (match v with
    | .agg cs => iteR (Nat.ble (Nat.add off n) (lenR cs)) (some (.agg (appR (takeR cs off) (appR x.cells (dropR cs (Nat.add off n)))))) none
    | _ => none)) none
theorem updR_eq (v : V) (off n : Nat) (x : V) : updR v off n x = v.upd off n x := by
  simp only [updR, V.upd, iteR_eq, andR_eq, Bool.and_eq_true, beq_iff', sizeR_eq, flatsR_eq]
  split
  · split
    · rfl
    · split
      · rename_i cs
        rw [lenR_eq, takeR_eq, dropR_eq, appR_eq, appR_eq]
        simp only [ble_iff, List.append_assoc]
        rfl
      · rename_i hne
        cases v <;> first | rfl | exact absurd rfl (hne _)
  · rfl

/-! Loads and stores. -/
noncomputable def ldR (p : V) (k : Option Nat) (ts : TS) (c : V → Bool) : Bool :=
  match p with
  | .iptr v off => optR (partR v off k) c
  | .ptr l i off st => ts.get l fun o => match o with
    | .arr xs _ wr => iteR (andR (Nat.ble wr st) (Nat.ble (Nat.succ i) st)) (optR (nthR xs i) fun v => optR (partR v off k) c) false
    | _ => false
  | .glob g off => optR (globN g off) fun q => optR (partR (.int q.1 q.2) 0 k) c
  | _ => false
theorem ldR_spec {p : V} {k : Option Nat} {ts : TS} {S : St} {c : V → Bool} (hs : ts.Abs S) (h : ldR p k ts c = true) : ∃ v, ldS S p k = some v ∧ c v = true := by
  unfold ldR at h
  split at h
  · rw [partR_eq] at h; exact optR_spec h
  · obtain ⟨o, h1, h2⟩ := TS.get_spec hs h
    split at h2 <;> try cases h2
    have h1 := sk_arr h1
    obtain ⟨h3, h4⟩ := guard_spec h2
    obtain ⟨h5, h6⟩ := andR_spec h3
    obtain ⟨v, h7, h8⟩ := optR_spec h4
    rw [nthR_eq] at h7
    rw [partR_eq] at h8
    obtain ⟨r, h9, h10⟩ := optR_spec h8
    simp only [ldS, h1]
    exact ⟨r, by rw [if_pos ⟨ble_spec h5, ble_spec h6⟩, h7]; exact h9, h10⟩
  · obtain ⟨q, h1, h2⟩ := optR_spec h
    obtain ⟨r, h3, h4⟩ := optR_spec h2
    rw [partR_eq] at h3
    exact ⟨r, by simp only [ldS, h1]; exact h3, h4⟩
  · cases h

noncomputable def stR (p : V) (n : Nat) (x : V) (ts : TS) (c : TS → Bool) : Bool :=
  match p with
  | .ptr l i off st => ts.get l fun o => match o with
    | .arr xs sz _ => iteR (Nat.beq st (lenR xs)) (optR (nthR xs i) fun v => optR (updR v off n x) fun v' => c (ts.set l (.arr (setR v' xs i) sz st))) false
    | _ => false
  | _ => false
theorem stR_spec {p x : V} {n : Nat} {ts : TS} {S : St} {c : TS → Bool} (hs : ts.Abs S) (h : stR p n x ts c = true) : ∃ S' ts', stS S p n x = some S' ∧ ts'.Abs S' ∧ c ts' = true := by
  unfold stR at h
  split at h <;> try cases h
  obtain ⟨o, h1, h2⟩ := TS.get_spec hs h
  split at h2 <;> try cases h2
  have h1 := sk_arr h1
  obtain ⟨h3, h4⟩ := guard_spec h2
  obtain ⟨v, h5, h6⟩ := optR_spec h4
  obtain ⟨v', h7, h8⟩ := optR_spec h6
  rw [lenR_eq] at h3
  rw [nthR_eq] at h5
  rw [updR_eq] at h7
  rw [setR_eq] at h8
  refine ⟨_, _, ?_, TS.set_abs hs h1, h8⟩
  simp only [stS, h1]
  rw [if_pos (beq_spec h3), h5]
  simp only [Option.bind_some, h7, Option.map_some]

noncomputable def boxR (x : V) (ts : TS) (c : V → TS → Bool) : Bool :=
  iteR (andR (flatsR x.cells) (Nat.ble 1 (sizeR x))) (forceN ts.len fun n => c (.ptr n 0 0 1) (TS.push ⟨n, ts.tr⟩ (.arr [x] (sizeR x) 1))) false
theorem boxR_spec {x : V} {ts : TS} {S : St} {c : V → TS → Bool} (hs : ts.Abs S) (h : boxR x ts c = true) : ∃ r S' ts', boxS S x = some (r, S') ∧ ts'.Abs S' ∧ c r ts' = true := by
  unfold boxR at h
  obtain ⟨h1, h2⟩ := guard_spec h
  obtain ⟨h3, h4⟩ := andR_spec h1
  rw [forceN_eq] at h2
  rw [flatsR_eq] at h3
  rw [sizeR_eq] at h4 h2
  refine ⟨_, _, _, ?_, TS.push_abs (o := .arr [x] x.size 1) hs, h2⟩
  simp only [boxS]
  rw [if_pos ⟨h3, ble_spec h4⟩, hs.1]

noncomputable def elemsR (v : V) (ts : TS) (c : List V → Bool) : Bool :=
  match v with
  | .sl _ xs => c xs
  | .arr l off len st => ts.get l fun o => match o with
    | .arr xs _ wr => iteR (andR (Nat.ble wr st) (Nat.ble (Nat.add off len) st)) (c (takeR (dropR xs off) len)) false
    | _ => false
  | _ => false
theorem elemsR_spec {v : V} {ts : TS} {S : St} {c : List V → Bool} (hs : ts.Abs S) (h : elemsR v ts c = true) : ∃ xs, elems S v = some xs ∧ c xs = true := by
  unfold elemsR at h
  split at h
  · exact ⟨_, rfl, h⟩
  · obtain ⟨o, h1, h2⟩ := TS.get_spec hs h
    split at h2 <;> try cases h2
    have h1 := sk_arr h1
    obtain ⟨h3, h4⟩ := guard_spec h2
    obtain ⟨h5, h6⟩ := andR_spec h3
    rw [takeR_eq, dropR_eq] at h4
    simp only [elems, h1]
    exact ⟨_, if_pos ⟨ble_spec h5, ble_spec h6⟩, h4⟩
  · cases h

noncomputable def fitsR (sz : Nat) (ys : List V) : Bool := allR (fun y => andR (Nat.beq (sizeR y) sz) (flatsR y.cells)) ys
theorem nat_beq (a b : Nat) : Nat.beq a b = (a == b) := by rw [Bool.eq_iff_iff, Nat.beq_eq]; simp
theorem fitsR_eq (sz : Nat) (ys : List V) : fitsR sz ys = fits sz ys := by
  simp only [fitsR, fits, allR_eq, andR_eq, sizeR_eq, flatsR_eq, nat_beq]

noncomputable def isNilR {α : Type} (l : List α) : Bool := List.rec true (fun _ _ _ => false) l
theorem isNilR_eq {α : Type} (l : List α) : isNilR l = l.isEmpty := by cases l <;> rfl

noncomputable def appOp (sz bytes : Nat) (d x : V) (ts : TS) (c : V → TS → Bool) : Bool :=
  elemsR x ts fun ys => match d with
    | .sl e xs => iteR (isNilR ys) (c d ts) (iteR (andR e (andR (fitsR sz ys) (andR (allR (fun v => Nat.beq (sizeR v) sz) xs) (Nat.ble (Nat.mul (Nat.add (lenR xs) (lenR ys)) bytes) 140737488355328))))
        (forceN ts.len fun n => forceN (Nat.add (lenR xs) (lenR ys)) fun m => c (.arr n 0 m m) (TS.push ⟨n, ts.tr⟩ (.arr (appR xs ys) sz m))) false)
    | .arr l off len st => ts.get l fun o => match o with
      | .arr zs s wr => forceN (lenR zs) fun lz => iteR (andR (Nat.beq off 0) (andR (Nat.beq len lz) (andR (Nat.beq st lz) (andR (Nat.beq s sz) (andR (fitsR sz ys) (Nat.ble (Nat.mul (Nat.add lz (lenR ys)) bytes) 140737488355328))))))
          (forceN (Nat.add lz (lenR ys)) fun m => c (.arr l 0 m m) (ts.set l (.arr (appR zs ys) sz wr))) false
      | _ => false
    | _ => false
theorem appOp_spec {sz bytes : Nat} {d x : V} {ts : TS} {S : St} {c : V → TS → Bool} (hs : ts.Abs S) (h : appOp sz bytes d x ts c = true) : ∃ r S' ts', appS S sz bytes d x = some (r, S') ∧ ts'.Abs S' ∧ c r ts' = true := by
  unfold appOp at h
  obtain ⟨ys, h1, h2⟩ := elemsR_spec hs h
  simp only [appS, h1]
  split at h2
  · rw [iteR_eq, isNilR_eq] at h2
    split at h2
    · rename_i hy
      exact ⟨_, _, ts, if_pos hy, hs, h2⟩
    · rename_i hy
      obtain ⟨g1, g2⟩ := guard_spec h2
      obtain ⟨q1, g3⟩ := andR_spec g1
      obtain ⟨q2, g4⟩ := andR_spec g3
      obtain ⟨q3, q4⟩ := andR_spec g4
      rw [fitsR_eq] at q2
      rw [allR_eq] at q3
      simp only [lenR_eq, forceN_eq, appR_eq] at g2 q4
      have q4 := ble_spec q4
      refine ⟨_, _, _, ?_, TS.push_abs hs, g2⟩
      show (if ys.isEmpty = true then _ else _) = _
      rw [if_neg hy, if_pos ⟨q1, q2, by simpa only [sizeR_eq, nat_beq] using q3, q4⟩, hs.1]
      rfl
  · obtain ⟨o, k1, k2⟩ := TS.get_spec hs h2
    split at k2 <;> try cases k2
    have k1 := sk_arr k1
    simp only [forceN_eq] at k2
    obtain ⟨g1, g2⟩ := guard_spec k2
    obtain ⟨q1, g3⟩ := andR_spec g1
    obtain ⟨q2, g4⟩ := andR_spec g3
    obtain ⟨q3, g5⟩ := andR_spec g4
    obtain ⟨q4, g6⟩ := andR_spec g5
    obtain ⟨q5, q6⟩ := andR_spec g6
    rw [fitsR_eq] at q5
    simp only [lenR_eq, appR_eq] at g2 q2 q3 q6
    have q4' := beq_spec q4
    subst q4'
    have q6 := ble_spec q6
    simp only [k1]
    refine ⟨_, _, _, if_pos ⟨beq_spec q1, beq_spec q2, beq_spec q3, trivial, q5, q6⟩, TS.set_abs hs k1, ?_⟩
    exact g2
  · cases h2
end Go.Proofs.YtbifpocccfkhhaaGreatDoor
/- Fast runs: every operation. -/
namespace Go.Proofs.YtbifpocccfkhhaaGreatDoor
open Go

noncomputable def strCat (a b : ByteArray) : ByteArray := ⟨⟨appR a.data.toList b.data.toList⟩⟩
theorem strCat_eq (a b : ByteArray) : strCat a b = a ++ b := by
  apply str_same
  simp [strCat, appR_eq]
noncomputable def strCut (s : ByteArray) (a b : Nat) : ByteArray := ⟨⟨dropR (takeR s.data.toList b) a⟩⟩
theorem strCut_eq (s : ByteArray) (a b : Nat) : strCut s a b = s.extract a b := by
  apply str_same
  simp [strCut, takeR_eq, dropR_eq, List.drop_take, List.extract_eq_take_drop]
noncomputable def sizeS (s : ByteArray) : Nat := lenR s.data.toList
theorem sizeS_eq (s : ByteArray) : sizeS s = s.size := by rw [sizeS, lenR_eq]; rfl
noncomputable def ltS (a : List UInt8) : List UInt8 → Bool := List.rec (motive := fun _ => List UInt8 → Bool) (fun b => List.rec false (fun _ _ _ => true) b)
  (fun x _ ih b => List.rec false (fun y ys _ => Bool.rec (Bool.rec false (ih ys) (Nat.beq x.toNat y.toNat)) true (Nat.ble (Nat.succ x.toNat) y.toNat)) b) a
theorem ltS_eq : ∀ (a b : List UInt8), ltS a b = Op.bytesLess a b
  | [], [] => rfl
  | [], _ :: _ => rfl
  | _ :: _, [] => rfl
  | x :: xs, y :: ys => by
    show (Bool.rec (Bool.rec false (ltS xs ys) (Nat.beq x.toNat y.toNat)) true (Nat.ble (Nat.succ x.toNat) y.toNat) : Bool) = _
    rw [ltS_eq xs ys, u8_beq]
    simp only [Op.bytesLess]
    have hd : Nat.ble (Nat.succ x.toNat) y.toNat = decide (x < y) := by
      rw [Bool.eq_iff_iff, decide_eq_true_iff, ble_iff]
      exact UInt8.lt_iff_toNat_lt.symm
    rw [hd]
    cases decide (x < y) <;> cases (x == y) <;> rfl
noncomputable def strLtR (a b : ByteArray) : Bool := ltS a.data.toList b.data.toList
theorem strLtR_eq (a b : ByteArray) : strLtR a b = strLt a b := by rw [strLtR, ltS_eq, strLt, toList_data, toList_data]

noncomputable def strVR' (op : BinOp) (a b : ByteArray) : Option V :=
  match op with
  | .eql => some (.bool (strEqR a b))
  | .neq => some (.bool (notR (strEqR a b)))
  | .add => iteR (Nat.ble (Nat.add (sizeS a) (sizeS b)) 9223372036854775807) (some (.str (strCat a b))) none
  | .lss => some (.bool (strLtR a b))
  | .leq => some (.bool (iteR (strLtR a b) true (strEqR a b)))
  | .gtr => some (.bool (notR (iteR (strLtR a b) true (strEqR a b))))
  | .geq => some (.bool (notR (strLtR a b)))
  | _ => none
theorem strVR'_eq (op : BinOp) (a b : ByteArray) : strVR' op a b = strV op a b := by
  cases op <;> simp only [strVR', strV, strEqR_eq, notR_eq, strLtR_eq, strCat_eq, sizeS_eq, iteR_eq]
  · have : (Nat.ble (Nat.add a.size b.size) 9223372036854775807 = true) ↔ (((a.size + b.size : Nat) : Int) ≤ IntKind.i64.max) := by
      rw [ble_iff]
      show a.size + b.size ≤ _ ↔ ((a.size + b.size : Nat) : Int) ≤ 9223372036854775807
      omega
    simp only [this]
  all_goals (congr 2; first | rfl | (cases strLt a b <;> simp))

noncomputable def binR' (op : BinOp) (x y : V) (c : V → Bool) : Bool :=
  match x with
  | .int k a => match y with
    | .int k' b => iteR (isSh op) (optR (shV op k a b) c) (iteR (kindEq k k') (optR (intVR op k a b) c) false)
    | _ => false
  | .str a => match y with
    | .str b => optR (strVR' op a b) c
    | _ => false
  | _ => false
theorem binR'_spec {op : BinOp} {x y : V} {c : V → Bool} (h : binR' op x y c = true) : ∃ r, binV op x y = some r ∧ c r = true := by
  refine binR_spec (op := op) (x := x) (y := y) (c := c) ?_
  unfold binR' at h
  unfold binR
  split at h
  · exact h
  · split at h
    · rw [strVR'_eq, ← strVR_eq] at h; exact h
    · cases h
  · cases h

noncomputable def buildR (ps : List (Nat × Nat × Nat × Opd)) (tr : TE) : V → (V → Bool) → Bool := List.rec (motive := fun _ => V → (V → Bool) → Bool) (fun z c => c z) (fun p _ ih z c => opd p.2.2.2 tr fun v => optR (updR z p.2.1 p.2.2.1 v) fun z' => ih z' c) ps
theorem buildR_spec {tr : TE} {e : Env} (ht : tr.sub e) : ∀ {ps : List (Nat × Nat × Nat × Opd)} {z : V} {c : V → Bool}, buildR ps tr z c = true → ∃ l r, evParts e ps = some l ∧ buildV z (l.map fun p => p.2) = some r ∧ c r = true
  | [], z, c, h => ⟨[], z, rfl, rfl, h⟩
  | (f, o, n, x) :: ps, z, c, h => by
    obtain ⟨v, h1, h2⟩ := opd_spec (x := x) (c := fun v => optR (updR z o n v) fun z' => buildR ps tr z' c) ht h
    obtain ⟨z', h3, h4⟩ := optR_spec h2
    obtain ⟨l, r, h5, h6, h7⟩ := buildR_spec ht h4
    rw [updR_eq] at h3
    exact ⟨(f, o, n, v) :: l, r, by simp only [evParts, h1, h5], by simp only [List.map_cons, buildV, h3, Option.bind_some, h6], h7⟩

noncomputable def intR (v : V) (c : Int → Bool) : Bool := match v with | .int _ n => c n | _ => false
theorem intR_spec {v : V} {c : Int → Bool} (h : intR v c = true) : ∃ k n, v = .int k n ∧ c n = true := by
  unfold intR at h
  split at h
  · exact ⟨_, _, rfl, h⟩
  · cases h
noncomputable def natR (i : Int) (c : Nat → Bool) : Bool := Int.rec c (fun _ => false) i
theorem natR_spec {i : Int} {c : Nat → Bool} (h : natR i c = true) : ∃ m : Nat, i = (m : Int) ∧ c m = true := by
  cases i with
  | ofNat m => exact ⟨m, rfl, h⟩
  | negSucc m => cases h
noncomputable def boolR (v : V) (c : Bool → Bool) : Bool := match v with | .bool b => c b | _ => false
theorem boolR_spec {v : V} {c : Bool → Bool} (h : boolR v c = true) : ∃ b, v = .bool b ∧ c b = true := by
  unfold boolR at h
  split at h
  · exact ⟨_, rfl, h⟩
  · cases h

noncomputable def iaR (sz : Nat) (p : V) (i : Int) (ts : TS) (c : V → Bool) : Bool :=
  match p with
  | .sl _ xs => natR i fun m => optR (nthR xs m) fun v => iteR (Nat.beq (sizeR v) sz) (c (.iptr v 0)) false
  | .arr l off len st => ts.get l fun o => match o with
    | .arr _ s wr => natR i fun m => iteR (andR (Nat.ble wr st) (andR (Nat.beq s sz) (Nat.ble (Nat.succ m) len))) (forceN (Nat.add off m) fun j => c (.ptr l j 0 st)) false
    | _ => false
  | _ => false
theorem iaR_spec {sz : Nat} {p : V} {i : Int} {ts : TS} {S : St} {c : V → Bool} (hs : ts.Abs S) (h : iaR sz p i ts c = true) : ∃ r, iaS S sz p i = some r ∧ c r = true := by
  unfold iaR at h
  split at h
  · obtain ⟨m, rfl, h1⟩ := natR_spec h
    obtain ⟨v, h2, h3⟩ := optR_spec h1
    obtain ⟨h4, h5⟩ := guard_spec h3
    rw [nthR_eq] at h2
    rw [sizeR_eq] at h4
    refine ⟨_, ?_, h5⟩
    simp only [iaS]
    rw [if_pos (Int.natCast_nonneg m), Int.toNat_natCast, h2]
    exact if_pos (beq_spec h4)
  · obtain ⟨o, h1, h2⟩ := TS.get_spec hs h
    split at h2 <;> try cases h2
    have h1 := sk_arr h1
    obtain ⟨m, rfl, h3⟩ := natR_spec h2
    obtain ⟨h4, h5⟩ := guard_spec h3
    obtain ⟨q1, h6⟩ := andR_spec h4
    obtain ⟨q2, q3⟩ := andR_spec h6
    rw [forceN_eq] at h5
    have q3 := ble_spec q3
    refine ⟨_, ?_, h5⟩
    simp only [iaS, h1, Int.toNat_natCast]
    exact if_pos ⟨ble_spec q1, beq_spec q2, Int.natCast_nonneg m, by omega⟩
  · cases h

noncomputable def idxR (v : V) (i : Int) (c : V → Bool) : Bool :=
  match v with
  | .str s => natR i fun m => optR (nthR s.data.toList m) fun b => c (.int .u8 (Int.ofNat b.toNat))
  | _ => false
theorem idxR_spec {v : V} {i : Int} {c : V → Bool} (h : idxR v i c = true) : ∃ s r, v = .str s ∧ idxV s i = some r ∧ c r = true := by
  unfold idxR at h
  split at h <;> try cases h
  obtain ⟨m, rfl, h1⟩ := natR_spec h
  obtain ⟨b, h2, h3⟩ := optR_spec h1
  rw [nthR_eq] at h2
  refine ⟨_, _, rfl, ?_, h3⟩
  simp only [idxV]
  rw [if_pos (Int.natCast_nonneg m), Int.toNat_natCast]
  rename_i s
  have hb : s[m]? = some b := by
    obtain ⟨hm, hg⟩ := List.getElem?_eq_some_iff.1 h2
    have hm' : m < s.size := by simpa using hm
    rw [getElem?_pos s m hm']
    congr 1
  rw [hb]; rfl

noncomputable def natOpt (o : Option Int) (d : Nat) (c : Nat → Bool) : Bool := Option.rec (c d) (fun i => natR i c) o
theorem natOpt_spec {o : Option Int} {d : Nat} {c : Nat → Bool} (h : natOpt o d c = true) : ∃ m : Nat, o.getD (d : Int) = (m : Int) ∧ c m = true := by
  cases o with
  | none => exact ⟨d, rfl, h⟩
  | some i =>
    obtain ⟨m, rfl, h1⟩ := natR_spec (show natR i c = true from h)
    exact ⟨m, rfl, h1⟩
noncomputable def slcR (s : Bool) (sz : Nat) (d : V) (lo hi : Option Int) (ts : TS) (c : V → Bool) : Bool :=
  match d with
  | .str b => iteR s (natOpt lo 0 fun l => natOpt hi (sizeS b) fun h => iteR (andR (Nat.ble l h) (Nat.ble h (sizeS b))) (c (.str (strCut b l h))) false) false
  | .sl x xs => iteR s false (natOpt lo 0 fun l => natOpt hi (lenR xs) fun h => iteR (andR (Nat.ble l h) (andR (Nat.ble h (lenR xs)) (allR (fun v => Nat.beq (sizeR v) sz) xs))) (c (.sl (andR x (Nat.beq h (lenR xs))) (dropR (takeR xs h) l))) false)
  | .arr a off len st => iteR s false (natOpt lo 0 fun l => natOpt hi len fun h => iteR (andR (Nat.ble l h) (Nat.ble h len)) (iteR (Nat.beq l 0) (c (.arr a off h st)) (iteR (Nat.beq l h) (c (.sl false [])) (ts.get a fun o => match o with
      | .arr _ s wr => iteR (andR (Nat.ble wr st) (Nat.beq s sz)) (forceN (Nat.add off l) fun j => forceN (Nat.sub h l) fun n => c (.arr a j n st)) false
      | _ => false))) false)
  | _ => false
theorem slcR_spec {s : Bool} {sz : Nat} {d : V} {lo hi : Option Int} {ts : TS} {S : St} {c : V → Bool} (hs : ts.Abs S) (h : slcR s sz d lo hi ts c = true) :
    ∃ r, (match s, d with
      | true, .str b => (sliceS S sz (.str b) lo hi).map fun r => (r, S)
      | false, .sl .. | false, .arr .. => (sliceS S sz d lo hi).map fun r => (r, S)
      | _, _ => none) = some (r, S) ∧ c r = true := by
  unfold slcR at h
  split at h
  · obtain ⟨rfl, h0⟩ := guard_spec h
    obtain ⟨l, h1, h2⟩ := natOpt_spec h0
    obtain ⟨r, h3, h4⟩ := natOpt_spec h2
    obtain ⟨h5, h6⟩ := guard_spec h4
    obtain ⟨q1, q2⟩ := andR_spec h5
    rw [sizeS_eq] at h3 q2
    have q1 := ble_spec q1
    have q2 := ble_spec q2
    rw [strCut_eq] at h6
    refine ⟨_, ?_, h6⟩
    simp only [sliceS]
    simp only [Int.ofNat_zero] at h1
    rw [show (lo.getD 0) = (l : Int) from h1, h3, if_pos ⟨by omega, by omega, by omega⟩]
    simp
  · rw [iteR_eq] at h
    split at h
    · cases h
    rename_i hs'
    simp only [Bool.not_eq_true] at hs'; subst hs'
    obtain ⟨l, h1, h2⟩ := natOpt_spec h
    obtain ⟨r, h3, h4⟩ := natOpt_spec h2
    obtain ⟨h5, h6⟩ := guard_spec h4
    obtain ⟨q1, h7⟩ := andR_spec h5
    obtain ⟨q2, q3⟩ := andR_spec h7
    rw [lenR_eq] at h3 q2 h6
    rw [allR_eq] at q3
    rw [dropR_eq, takeR_eq, andR_eq] at h6
    have q1 := ble_spec q1
    have q2 := ble_spec q2
    refine ⟨_, ?_, h6⟩
    simp only [sliceS]
    simp only [Int.ofNat_zero] at h1
    rw [show (lo.getD 0) = (l : Int) from h1, h3, if_pos ⟨by omega, by omega, by omega, by simpa only [sizeR_eq, nat_beq] using q3⟩]
    simp only [Option.map_some, Int.toNat_natCast, nat_beq]
    congr 4
    rw [Bool.eq_iff_iff]; simp; omega
  · rw [iteR_eq] at h
    split at h
    · cases h
    rename_i hs'
    simp only [Bool.not_eq_true] at hs'; subst hs'
    obtain ⟨l, h1, h2⟩ := natOpt_spec h
    obtain ⟨r, h3, h4⟩ := natOpt_spec h2
    obtain ⟨h5, h6⟩ := guard_spec h4
    obtain ⟨q1, q2⟩ := andR_spec h5
    have q1 := ble_spec q1
    have q2 := ble_spec q2
    simp only [Int.ofNat_zero] at h1
    simp only [sliceS]
    rw [show (lo.getD 0) = (l : Int) from h1, h3, if_pos ⟨by omega, by omega, by omega⟩]
    rw [iteR_eq] at h6
    split at h6
    · rename_i hz
      have := beq_spec hz; subst this
      exact ⟨_, by rw [if_pos (by simp)]; simp, h6⟩
    · rename_i hz
      rw [if_neg (by intro hh; apply hz; rw [beq_iff']; omega)]
      rw [iteR_eq] at h6
      split at h6
      · rename_i he
        have := beq_spec he; subst this
        exact ⟨_, by rw [if_pos rfl]; rfl, h6⟩
      · rename_i he
        rw [if_neg (by intro hh; apply he; rw [beq_iff']; omega)]
        obtain ⟨o, k1, k2⟩ := TS.get_spec hs h6
        split at k2 <;> try cases k2
        have k1 := sk_arr k1
        obtain ⟨k3, k4⟩ := guard_spec k2
        obtain ⟨k5, k6⟩ := andR_spec k3
        simp only [forceN_eq] at k4
        refine ⟨_, ?_, k4⟩
        simp only [k1]
        rw [if_pos ⟨ble_spec k5, beq_spec k6⟩]
        simp
  · cases h

noncomputable def intOptR (o : Option Opd) (tr : TE) (c : Option Int → Bool) : Bool := Option.rec (c none) (fun x => opd x tr fun v => intR v fun n => c (some n)) o
theorem intOptR_spec {tr : TE} {e : Env} (ht : tr.sub e) {o : Option Opd} {c : Option Int → Bool} (h : intOptR o tr c = true) : ∃ r, evInt e o = some r ∧ c r = true := by
  cases o with
  | none => exact ⟨none, rfl, h⟩
  | some x =>
    obtain ⟨v, h1, h2⟩ := opd_spec (x := x) (c := fun v => intR v fun n => c (some n)) ht h
    obtain ⟨k, n, rfl, h3⟩ := intR_spec h2
    exact ⟨some n, by simp only [evInt, h1], h3⟩

noncomputable def lenOp (s : Bool) (v : V) (c : V → Bool) : Bool :=
  match v with
  | .str b => iteR s (c (.int .i64 (Int.ofNat (sizeS b)))) false
  | .sl _ xs => iteR s false (c (.int .i64 (Int.ofNat (lenR xs))))
  | .arr _ _ n _ => iteR s false (c (.int .i64 (Int.ofNat n)))
  | _ => false

/-! Maps. -/
noncomputable def keyEqR (kd : KeyKd) (a b : V) : Option Bool :=
  match a with
  | .str x => match b with
    | .str y => KeyKd.rec (some (strEqR x y)) (fun _ => none) kd
    | _ => none
  | a => keyEq kd a b
theorem keyEqR_eq (kd : KeyKd) (a b : V) : keyEqR kd a b = keyEq kd a b := by
  unfold keyEqR
  split
  · split
    · cases kd
      · show some (strEqR _ _) = _
        rw [strEqR, bytesEqR_eq]; rfl
      · rfl
    · rename_i hb
      cases kd <;> cases b <;> first | rfl | exact absurd rfl (hb _)
  · rfl
noncomputable def mapFindR (kd : KeyKd) (k : V) (es : List (V × V)) : Nat → Option (Option (Nat × V)) := List.rec (motive := fun _ => Nat → Option (Option (Nat × V))) (fun _ => some none)
  (fun p _ ih i => Option.rec none (fun b => Bool.rec (ih (Nat.succ i)) (some (some (i, p.2))) b) (keyEqR kd k p.1)) es
theorem mapFindR_eq (kd : KeyKd) (k : V) : ∀ (es : List (V × V)) (i : Nat), mapFindR kd k es i = mapFind kd k es i
  | [], i => rfl
  | (k', v) :: es, i => by
    show (Option.rec none (fun b => Bool.rec (mapFindR kd k es (Nat.succ i)) (some (some (i, v))) b) (keyEqR kd k k') : Option (Option (Nat × V))) = _
    rw [keyEqR_eq, mapFindR_eq kd k es]
    simp only [mapFind]
    cases keyEq kd k k' with
    | none => rfl
    | some b => cases b <;> rfl

noncomputable def lkpOp (kd : KeyKd) (z : V) (ok : Bool) (x k : V) (ts : TS) (c : V → Bool) : Bool :=
  let fin (es : List (V × V)) : Bool := optR (mapFindR kd k es 0) fun r => Option.rec (c (iteR ok (.tup [z, .bool false]) z)) (fun p => c (iteR ok (.tup [p.2, .bool true]) p.2)) r
  iteR (keyIs kd k) (match x with
    | .nilmap => fin []
    | .map l => ts.get l fun o => match o with
      | .map es _ _ => fin es
      | _ => false
    | _ => false) false
theorem lkpOp_spec {kd : KeyKd} {z : V} {ok : Bool} {x k : V} {ts : TS} {S : St} {c : V → Bool} (hs : ts.Abs S) (h : lkpOp kd z ok x k ts c = true) : ∃ r, lkpV S kd z ok x k = some r ∧ c r = true := by
  unfold lkpOp at h
  obtain ⟨h1, h2⟩ := guard_spec h
  have fin : ∀ es, mapOf S x = some es → (optR (mapFindR kd k es 0) fun r => Option.rec (c (iteR ok (.tup [z, .bool false]) z)) (fun p => c (iteR ok (.tup [p.2, .bool true]) p.2)) r) = true → ∃ r, lkpV S kd z ok x k = some r ∧ c r = true := by
    intro es hm hf
    obtain ⟨r, g1, g2⟩ := optR_spec hf
    rw [mapFindR_eq] at g1
    simp only [lkpV]
    rw [if_pos h1, hm]
    simp only [g1]
    cases r with
    | none => exact ⟨_, rfl, by rw [← iteR_eq]; exact g2⟩
    | some p => exact ⟨_, rfl, by rw [← iteR_eq]; exact g2⟩
  split at h2
  · exact fin [] rfl h2
  · obtain ⟨o, k1, k2⟩ := TS.get_spec hs h2
    split at k2 <;> try cases k2
    have k1 := sk_map k1
    exact fin _ (by simp only [mapOf, k1]) k2
  · cases h2

noncomputable def mupOp (kd : KeyKd) (x k v : V) (ts : TS) (c : TS → Bool) : Bool :=
  iteR (keyIs kd k) (match x with
    | .map l => ts.get l fun o => match o with
      | .map es bs ck => optR (mapFindR kd k es 0) fun r => Option.rec (c (ts.set l (.map (appR es [(k, v)]) (appR bs [ck]) (Nat.succ ck)))) (fun p => c (ts.set l (.map (setR (k, v) es p.1) bs ck))) r
      | _ => false
    | _ => false) false
theorem mupOp_spec {kd : KeyKd} {x k v : V} {ts : TS} {S : St} {c : TS → Bool} (hs : ts.Abs S) (h : mupOp kd x k v ts c = true) : ∃ S' ts', mupS S kd x k v = some S' ∧ ts'.Abs S' ∧ c ts' = true := by
  unfold mupOp at h
  obtain ⟨h1, h2⟩ := guard_spec h
  split at h2 <;> try cases h2
  obtain ⟨o, k1, k2⟩ := TS.get_spec hs h2
  split at k2 <;> try cases k2
  have k1 := sk_map k1
  obtain ⟨r, g1, g2⟩ := optR_spec k2
  rw [mapFindR_eq] at g1
  simp only [mupS]
  rw [if_pos h1]
  simp only [k1, g1]
  cases r with
  | none => exact ⟨_, _, rfl, TS.set_abs hs k1, by rw [← appR_eq, ← appR_eq]; exact g2⟩
  | some p => exact ⟨_, _, rfl, TS.set_abs hs k1, by rw [← setR_eq]; exact g2⟩
/-! Ranges over maps. -/
noncomputable def rngOp (x : V) (ts : TS) (c : V → TS → Bool) : Bool :=
  match x with
  | .map lm => ts.get lm fun o => match o with
    | .map _ _ ck => forceN ts.len fun n => c (.ptr n 0 0 0) (TS.push ⟨n, ts.tr⟩ (.iter lm ck [] ck))
    | _ => false
  | _ => false
theorem rngOp_spec {x : V} {ts : TS} {S : St} {c : V → TS → Bool} (hs : ts.Abs S) (h : rngOp x ts c = true) : ∃ r S' ts', rngS S x = some (r, S') ∧ ts'.Abs S' ∧ c r ts' = true := by
  unfold rngOp at h
  split at h <;> try cases h
  obtain ⟨o, k1, k2⟩ := TS.get_spec hs h
  split at k2 <;> try cases k2
  have k1 := sk_map k1
  rw [forceN_eq] at k2
  exact ⟨_, _, _, by simp only [rngS, k1]; rw [hs.1], TS.push_abs hs, k2⟩

noncomputable def memR (b : Nat) (l : List Nat) : Bool := List.rec false (fun x _ ih => Bool.rec ih true (Nat.beq b x)) l
theorem memR_eq (b : Nat) : ∀ l : List Nat, memR b l = l.contains b
  | [] => rfl
  | x :: l => by
    show (Bool.rec (memR b l) true (Nat.beq b x) : Bool) = _
    rw [memR_eq b l, List.contains_cons, nat_beq]
    cases (b == x) <;> rfl
noncomputable def zipR {α β : Type} (l : List α) : List β → List (α × β) := List.rec (motive := fun _ => List β → List (α × β)) (fun _ => []) (fun x _ ih m => List.rec [] (fun y ys _ => (x, y) :: ih ys) m) l
theorem zipR_eq {α β : Type} : ∀ (l : List α) (m : List β), zipR l m = l.zip m
  | [], m => rfl
  | x :: l, [] => rfl
  | x :: l, y :: m => by rw [List.zip_cons_cons, ← zipR_eq l m]; rfl
noncomputable def filterR {α : Type} (f : α → Bool) (l : List α) : List α := List.rec [] (fun x _ ih => Bool.rec ih (x :: ih) (f x)) l
theorem filterR_eq {α : Type} (f : α → Bool) : ∀ l : List α, filterR f l = l.filter f
  | [] => rfl
  | x :: l => by
    show (Bool.rec (filterR f l) (x :: filterR f l) (f x) : List α) = _
    rw [filterR_eq f l]
    cases hf : f x
    · rw [List.filter_cons_of_neg (by simp [hf])]
    · rw [List.filter_cons_of_pos hf]

/-- The next entry, whichever. -/
noncomputable def nxtOp (p : V) (ts : TS) (c : V → TS → Bool) : Bool :=
  match p with
  | .ptr l i off st => iteR (andR (Nat.beq i 0) (andR (Nat.beq off 0) (Nat.beq st 0))) (ts.get l fun o => match o with
    | .iter lm since seen last => ts.get lm fun m => match m with
      | .map es bs ck => iteR (andR (allR (fun b => Nat.ble (Nat.succ b) since) bs) (Nat.ble since last)) (List.rec (c (.tup [.bool false]) ts)
          (fun q qs _ => allR (fun q => c (.tup [.bool true, q.1.1, q.1.2]) (ts.set l (.iter lm since (appR seen [q.2]) ck))) (q :: qs)) (filterR (fun q => notR (memR q.2 seen)) (zipR es bs))) false
      | _ => false
    | _ => false) false
  | _ => false
theorem nxtOp_spec {p : V} {ts : TS} {S : St} {c : V → TS → Bool} (hs : ts.Abs S) (h : nxtOp p ts c = true) : nxtS S p ≠ [] ∧ ∀ q, q ∈ nxtS S p → ∃ ts', ts'.Abs q.2 ∧ c q.1 ts' = true := by
  unfold nxtOp at h
  split at h <;> try cases h
  rename_i l i off st
  obtain ⟨h0, h⟩ := guard_spec h
  obtain ⟨z1, h0⟩ := andR_spec h0
  obtain ⟨z2, z3⟩ := andR_spec h0
  have z1 := beq_spec z1; have z2 := beq_spec z2; have z3 := beq_spec z3
  subst z1; subst z2; subst z3
  obtain ⟨o, k1, k2⟩ := TS.get_spec hs h
  split at k2 <;> try cases k2
  rename_i lm since seen last
  have k1 := sk_iter k1
  obtain ⟨m, g1, g2⟩ := TS.get_spec hs k2
  split at g2 <;> try cases g2
  rename_i es bs ck
  have g1 := sk_map g1
  obtain ⟨e1, e2⟩ := guard_spec g2
  obtain ⟨e3, e4⟩ := andR_spec e1
  rw [allR_eq] at e3
  have e4 := ble_spec e4
  have hall : (bs.all fun b => decide (b < since)) = true := by
    simp only [List.all_eq_true, decide_eq_true_eq] at e3 ⊢
    exact fun b hb => ble_spec (e3 b hb)
  have hf : (fun q : (V × V) × Nat => notR (memR q.2 seen)) = fun q => !seen.contains q.2 := by
    funext q; rw [notR_eq, memR_eq]
  rw [filterR_eq, zipR_eq, hf] at e2
  simp only [nxtS, k1, g1]
  rw [if_pos ⟨hall, e4⟩]
  cases hq : (es.zip bs).filter fun q => !seen.contains q.2 with
  | nil =>
    rw [hq] at e2
    exact ⟨by simp, fun q hq => by rw [List.mem_singleton] at hq; subst hq; exact ⟨ts, hs, e2⟩⟩
  | cons q0 qs =>
    rw [hq] at e2
    have e2 : allR (fun q : (V × V) × Nat => c (.tup [.bool true, q.1.1, q.1.2]) (ts.set l (.iter lm since (appR seen [q.2]) ck))) (q0 :: qs) = true := e2
    rw [allR_eq, List.all_eq_true] at e2
    refine ⟨by simp, fun q hq => ?_⟩
    obtain ⟨q', hq', rfl⟩ := List.mem_map.1 hq
    have := e2 q' hq'
    rw [appR_eq] at this
    exact ⟨_, TS.set_abs hs k1, this⟩

noncomputable def findR {α : Type} (f : α → Bool) (l : List α) : Option α := List.rec none (fun x _ ih => Bool.rec ih (some x) (f x)) l
theorem findR_eq {α : Type} (f : α → Bool) : ∀ l : List α, findR f l = l.find? f
  | [] => rfl
  | x :: l => by
    show (Bool.rec (findR f l) (some x) (f x) : Option α) = _
    rw [findR_eq f l, List.find?_cons]
    cases f x <;> rfl
noncomputable def nodupR (l : List Nat) : Bool := List.rec true (fun x xs ih => Bool.rec ih false (memR x xs)) l
theorem nodupR_spec : ∀ {l : List Nat}, nodupR l = true → l.Nodup
  | [], _ => List.nodup_nil
  | x :: xs, h => by
    have h' : (Bool.rec (nodupR xs) false (memR x xs) : Bool) = true := h
    cases hm : memR x xs with
    | true => rw [hm] at h'; cases h'
    | false =>
      rw [hm] at h'
      rw [memR_eq] at hm
      exact List.nodup_cons.2 ⟨by simpa using hm, nodupR_spec h'⟩
noncomputable def lastN (l : List Nat) : Option Nat := List.rec (motive := fun _ => Option Nat → Option Nat) (fun d => d) (fun x _ ih _ => ih (some x)) l none
theorem lastN_go : ∀ (l : List Nat) (d : Option Nat), (List.rec (motive := fun _ => Option Nat → Option Nat) (fun d => d) (fun x _ ih _ => ih (some x)) l d : Option Nat) = match l.getLast? with | some x => some x | none => d
  | [], d => rfl
  | [x], d => rfl
  | x :: y :: l, d => by
    show (List.rec (motive := fun _ => Option Nat → Option Nat) (fun d => d) (fun x _ ih _ => ih (some x)) (y :: l) (some x) : Option Nat) = _
    rw [lastN_go (y :: l), List.getLast?_cons_cons]
theorem lastN_eq (l : List Nat) : lastN l = l.getLast? := by
  unfold lastN; rw [lastN_go]; cases l.getLast? <;> rfl

noncomputable def entOp (p : V) (ts : TS) (c : V → Bool) : Bool :=
  match p with
  | .ptr l i off st => iteR (andR (Nat.beq i 0) (andR (Nat.beq off 0) (Nat.beq st 0))) (ts.get l fun o => match o with
    | .iter lm _ seen last => ts.get lm fun m => match m with
      | .map es bs ck => iteR (andR (Nat.beq ck last) (nodupR bs)) (optR (lastN seen) fun b => optR (findR (fun q => Nat.beq q.2 b) (zipR es bs)) fun q => c (.tup [q.1.1, q.1.2])) false
      | _ => false
    | _ => false) false
  | _ => false
theorem entOp_spec {p : V} {ts : TS} {S : St} {c : V → Bool} (hs : ts.Abs S) (h : entOp p ts c = true) : ∃ r, entS S p = some r ∧ c r = true := by
  unfold entOp at h
  split at h <;> try cases h
  rename_i l i off st
  obtain ⟨h0, h⟩ := guard_spec h
  obtain ⟨z1, h0⟩ := andR_spec h0
  obtain ⟨z2, z3⟩ := andR_spec h0
  have z1 := beq_spec z1; have z2 := beq_spec z2; have z3 := beq_spec z3
  subst z1; subst z2; subst z3
  obtain ⟨o, k1, k2⟩ := TS.get_spec hs h
  split at k2 <;> try cases k2
  have k1 := sk_iter k1
  obtain ⟨m, g1, g2⟩ := TS.get_spec hs k2
  split at g2 <;> try cases g2
  have g1 := sk_map g1
  obtain ⟨e1, e2⟩ := guard_spec g2
  obtain ⟨e3, e4⟩ := andR_spec e1
  have e3 := beq_spec e3
  obtain ⟨b, e5, e6⟩ := optR_spec e2
  obtain ⟨q, e7, e8⟩ := optR_spec e6
  rw [lastN_eq] at e5
  rw [findR_eq, zipR_eq] at e7
  have hf : ∀ b : Nat, (fun q : (V × V) × Nat => Nat.beq q.2 b) = fun q => q.2 == b := fun b => by funext q; exact nat_beq _ _
  rw [hf] at e7
  refine ⟨_, ?_, e8⟩
  simp only [entS, k1, g1]
  rw [if_pos ⟨e3, nodupR_spec e4⟩]
  simp only [e5, e7]

noncomputable def eraseR {α : Type} (l : List α) : Nat → List α := List.rec (motive := fun _ => Nat → List α) (fun _ => []) (fun x xs ih n => Nat.rec xs (fun m _ => x :: ih m) n) l
theorem eraseR_eq {α : Type} : ∀ (l : List α) (n : Nat), eraseR l n = l.eraseIdx n
  | [], n => by simp [eraseR]
  | x :: xs, 0 => rfl
  | x :: xs, n + 1 => by rw [List.eraseIdx_cons_succ, ← eraseR_eq xs n]; rfl
noncomputable def delOp (kd : KeyKd) (x k : V) (ts : TS) (c : TS → Bool) : Bool :=
  iteR (keyIs kd k) (match x with
    | .map l => ts.get l fun o => match o with
      | .map es bs ck => optR (mapFindR kd k es 0) fun r => Option.rec (c (ts.set l (.map es bs ck))) (fun p => c (ts.set l (.map (eraseR es p.1) (eraseR bs p.1) ck))) r
      | _ => false
    | _ => false) false
theorem delOp_spec {kd : KeyKd} {x k : V} {ts : TS} {S : St} {c : TS → Bool} (hs : ts.Abs S) (h : delOp kd x k ts c = true) : ∃ S' ts', delS S kd x k = some S' ∧ ts'.Abs S' ∧ c ts' = true := by
  unfold delOp at h
  obtain ⟨h1, h2⟩ := guard_spec h
  split at h2 <;> try cases h2
  obtain ⟨o, k1, k2⟩ := TS.get_spec hs h2
  split at k2 <;> try cases k2
  have k1 := sk_map k1
  obtain ⟨r, g1, g2⟩ := optR_spec k2
  rw [mapFindR_eq] at g1
  simp only [delS]
  rw [if_pos h1]
  simp only [k1, g1]
  cases r with
  | none => exact ⟨_, _, rfl, TS.set_abs hs k1, g2⟩
  | some p => exact ⟨_, _, rfl, TS.set_abs hs k1, by rw [← eraseR_eq, ← eraseR_eq]; exact g2⟩
end Go.Proofs.YtbifpocccfkhhaaGreatDoor
