/- The abstract values and stores of the program logic, and how they stand for the machine's values and memory. -/
import Derived.TacticsIn
import Derived.RangeFuncIn
namespace Go.Proofs.YtbifpocccfkhhaaGreatDoor
open Go

/-- Abstract values. 'top': any value. 'iptr v off': a pointer to a cell of memory that is never written, which holds v. 'sl x xs': a slice whose elements are never written (x: its capacity is its length). 'arr l off len st': a slice of the abstract array l. 'ptr l i off st': a pointer to cell off of its element i. -/
inductive V where
  | top
  | bool (b : Bool)
  | int (k : IntKind) (n : Int)
  | str (s : ByteArray)
  | nilp
  | ptr (l i off st : Nat)
  | glob (g off : Nat)
  | iptr (v : V) (off : Nat)
  | sl (x : Bool) (xs : List V)
  | arr (l off len st : Nat)
  | nilmap
  | map (l : Nat)
  | fn (f : Fn) (first caps : List V)
  | nilfn
  | iface (t : TypeId) (v : V)
  | niliface
  | yld (l : Nat)
  | agg (cs : List V)
  | tup (vs : List V)
  deriving Inhabited

def V.cells : V → List V
  | .agg cs => cs
  | v => [v]

/-- Where an abstract array lies: the block, how many cells it has, and the cells of an element. -/
structure Blk where
  b : Nat
  N : Nat
  sz : Nat

/-- What is known of memory for good: cells that are never written (I), and where the abstract objects lie (ρ: by the object and the length at which a slice of it was made). -/
structure En where
  I : Nat → Nat → Option Value
  ρ : Nat → Nat → Option Blk

inductive VR (E : En) : V → Value → Prop
  | top (u : Value) : VR E .top u
  | bool (b : Bool) : VR E (.bool b) (.bool b)
  | int (k : IntKind) (n : Int) : VR E (.int k n) (.int k n)
  | str (s : ByteArray) : VR E (.str s) (.string s)
  | nilp : VR E .nilp (.pointer none)
  | ptr {l st : Nat} {x : Blk} (i off : Nat) (h : E.ρ l st = some x) : VR E (.ptr l i off st) (.pointer (some ⟨x.b, i * x.sz + off, none⟩))
  | glob (g off : Nat) : VR E (.glob g off) (.pointer (some ⟨g, off, none⟩))
  | iptr {v : V} {b o : Nat} (off : Nat) (hI : ∀ j, j < v.cells.length → (E.I b (o + j)).isSome = true) (hv : ∀ (j : Nat) (c' : V) (c : Value), v.cells[j]? = some c' → E.I b (o + j) = some c → VR E c' c) :
      VR E (.iptr v off) (.pointer (some ⟨b, o + off, none⟩))
  | slnil (x : Bool) : VR E (.sl x []) (.slice none 0 0)
  | slz (x : Bool) (a : Addr) : VR E (.sl x []) (.slice (some a) 0 0)
  | sl {x : Bool} {xs : List V} {b o cap sz : Nat} (hc : xs.length ≤ cap) (hx : x = true → cap = xs.length) (hs : ∀ v, v ∈ xs → v.cells.length = sz)
      (hI : ∀ i j, i < xs.length → j < sz → (E.I b (o + i * sz + j)).isSome = true)
      (hv : ∀ (i : Nat) (v : V) (j : Nat) (c' : V) (c : Value), xs[i]? = some v → v.cells[j]? = some c' → E.I b (o + i * sz + j) = some c → VR E c' c) : VR E (.sl x xs) (.slice (some ⟨b, o, none⟩) xs.length cap)
  | arr {l off len cap st : Nat} {x : Blk} (h : E.ρ l st = some x) (hN : (off + cap) * x.sz ≤ x.N) (hc : len ≤ cap) : VR E (.arr l off len st) (.slice (some ⟨x.b, off * x.sz, none⟩) len cap)
  | nilmap : VR E .nilmap (.map none)
  | map {l : Nat} {x : Blk} (h : E.ρ l 0 = some x) : VR E (.map l) (.map (some x.b))
  | fn {f : Fn} {fs cs : List V} {us ws : Array Value} (h1 : fs.length = us.size) (h2 : cs.length = ws.size) (g1 : ∀ (i : Nat) (v : V) (u : Value), fs[i]? = some v → us[i]? = some u → VR E v u) (g2 : ∀ (i : Nat) (v : V) (u : Value), cs[i]? = some v → ws[i]? = some u → VR E v u) :
      VR E (.fn f fs cs) (.func f us ws)
  | nilfn : VR E .nilfn .nilFunc
  | iface {v : V} {u : Value} (t : TypeId) (h : VR E v u) : VR E (.iface t v) (.iface t u)
  | niliface : VR E .niliface .nilIface
  | yld {l : Nat} {x : Blk} (h : E.ρ l 0 = some x) : VR E (.yld l) (.func (.yield x.b) #[] #[])
  | agg {cs : List V} {us : Array Value} (h : cs.length = us.size) (g : ∀ (i : Nat) (v : V) (u : Value), cs[i]? = some v → us[i]? = some u → VR E v u) : VR E (.agg cs) (.agg us)
  | tup {cs : List V} {us : Array Value} (h : cs.length = us.size) (g : ∀ (i : Nat) (v : V) (u : Value), cs[i]? = some v → us[i]? = some u → VR E v u) : VR E (.tup cs) (.tuple us)

def En.le (E E' : En) : Prop := (∀ b o c, E.I b o = some c → E'.I b o = some c) ∧ ∀ l st x, E.ρ l st = some x → E'.ρ l st = some x

theorem En.le_refl (E : En) : E.le E := ⟨fun _ _ _ h => h, fun _ _ _ h => h⟩
theorem En.le_trans {A B C : En} (h : A.le B) (g : B.le C) : A.le C := ⟨fun b o c x => g.1 b o c (h.1 b o c x), fun b o c x => g.2 b o c (h.2 b o c x)⟩

theorem isSome_mono {E E' : En} (h : E.le E') {b o : Nat} (hs : (E.I b o).isSome = true) : (E'.I b o).isSome = true := by
  obtain ⟨c, hc⟩ := Option.isSome_iff_exists.1 hs
  rw [h.1 b o c hc]; rfl
theorem I_back {E E' : En} (h : E.le E') {b o : Nat} {c : Value} (hs : (E.I b o).isSome = true) (hc : E'.I b o = some c) : E.I b o = some c := by
  obtain ⟨d, hd⟩ := Option.isSome_iff_exists.1 hs
  rw [h.1 b o d hd] at hc; rw [hd, hc]

theorem VR.mono {E E' : En} (h : E.le E') {v : V} {u : Value} (r : VR E v u) : VR E' v u := by
  induction r with
  | top u => exact .top u
  | bool b => exact .bool b
  | int k n => exact .int k n
  | str s => exact .str s
  | nilp => exact .nilp
  | ptr i off hr => exact .ptr i off (h.2 _ _ _ hr)
  | glob g off => exact .glob g off
  | iptr off hI _ ih => exact .iptr off (fun j hj => isSome_mono h (hI j hj)) (fun j c' c hc hi => ih j c' c hc (I_back h (hI j (List.getElem?_eq_some_iff.1 hc).1) hi))
  | slnil x => exact .slnil x
  | slz x a => exact .slz x a
  | sl hc hx hs hI _ ih =>
    refine .sl hc hx hs (fun i j hi hj => isSome_mono h (hI i j hi hj)) (fun i v j c' c hv hcc hi => ih i v j c' c hv hcc ?_)
    have h1 := (List.getElem?_eq_some_iff.1 hv).1
    have h2 := (List.getElem?_eq_some_iff.1 hcc).1
    rw [hs v (List.mem_of_getElem? hv)] at h2
    exact I_back h (hI i j h1 h2) hi
  | arr hr hN hc => exact .arr (h.2 _ _ _ hr) hN hc
  | nilmap => exact .nilmap
  | map hr => exact .map (h.2 _ _ _ hr)
  | fn h1 h2 _ _ ih1 ih2 => exact .fn h1 h2 ih1 ih2
  | nilfn => exact .nilfn
  | iface t _ ih => exact .iface t ih
  | niliface => exact .niliface
  | yld hr => exact .yld (h.2 _ _ _ hr)
  | agg hl _ ih => exact .agg hl ih
  | tup hl _ ih => exact .tup hl ih

/-- The temporaries that are known. -/
abbrev Env := List (Nat × V)
def Env.get : Env → Nat → Option V
  | [], _ => none
  | (k, v) :: e, t => if k = t then some v else Env.get e t
theorem Env.get_mem : ∀ {e : Env} {t : Nat} {v : V}, e.get t = some v → (t, v) ∈ e
  | [], _, _, h => by simp [Env.get] at h
  | (k, u) :: e, t, v, h => by
    simp only [Env.get] at h
    split at h
    · rename_i hk; subst hk; cases h; simp
    · simp [Env.get_mem h]
def Env.put (e : Env) (d : Option Nat) (v : V) : Env := match d with | some t => (t, v) :: e | none => e
def Env.keep (e : Env) : List Nat → Env
  | [] => []
  | t :: ts => match e.get t with
    | some v => (t, v) :: Env.keep e ts
    | none => Env.keep e ts

def Tmps (E : En) (e : Env) (tmps : Array Value) : Prop := ∀ t v, e.get t = some v → ∃ u, tmps[t]? = some u ∧ VR E v u

/-- The record of a range over a function. -/
structure LI where
  st : LoopState
  pend : Option Code
  ps : List Nat
  asg : Code
  body : Code
  e : Env
  N : Nat
  deriving Inhabited

/-- Abstract objects: an array (its elements, the cells of each, the least length of a slice that may still be used), a map (keys and values in the order of their making), nothing. -/
inductive Ob where
  | arr (xs : List V) (sz wr : Nat)
  | map (es : List (V × V)) (bs : List Nat) (ck : Nat)
  | iter (lm since : Nat) (seen : List Nat) (last : Nat)
  | dead
  | loop (i : LI)
  deriving Inhabited

abbrev St := List Ob

def live (S : St) (l : Nat) : Prop := ∃ o, S[l]? = some o ∧ o ≠ .dead

/-- The cells of a block hold the first n elements. -/
def Holds (E : En) (w : World) (x : Blk) (xs : List V) (n : Nat) : Prop :=
  ∃ cells t, w.heap[x.b]? = some (.cells cells t (0, 0)) ∧ cells.size = x.N ∧ n * x.sz ≤ x.N ∧
    ∀ i v, xs[i]? = some v → i < n → ∀ j c', v.cells[j]? = some c' → ∃ c, cells[i * x.sz + j]? = some c ∧ VR E c' c

def OR (E : En) (w : World) (l : Nat) : Ob → Prop
  | .arr xs sz wr => (0 < sz ∧ wr ≤ xs.length) ∧ (∀ v, v ∈ xs → v.cells.length = sz) ∧ (∀ st x, E.ρ l st = some x → wr ≤ st → st ≤ xs.length ∧ x.sz = sz ∧ Holds E w x xs st)
  | .map es bs ck => ∃ x entries, E.ρ l 0 = some x ∧ w.heap[x.b]? = some (.map entries ck) ∧ es.length = entries.size ∧ bs = entries.toList.map (·.born) ∧
      ∀ (i : Nat) (k v : V) (e : MapEntry), es[i]? = some (k, v) → entries[i]? = some e → VR E k e.key ∧ VR E v e.val
  | .iter lm since seen last => ∃ x y, E.ρ l 0 = some x ∧ E.ρ lm 0 = some y ∧ w.heap[x.b]? = some (.mapIter (some y.b) since seen.toArray last)
  | .dead => True
  | .loop i => ∃ x r, E.ρ l 0 = some x ∧ w.heap[x.b]? = some (.loop r) ∧ r.state = i.st ∧ r.pending = i.pend ∧ r.params.toList = i.ps ∧ r.assign = i.asg ∧ r.body = i.body ∧ r.tmps.size = i.N ∧ Tmps E i.e r.tmps

def own (E : En) (S : St) (b : Nat) : Prop := ∃ l st x, live S l ∧ E.ρ l st = some x ∧ x.b = b

/-- What lies in the program's variables for good: numbers. -/
def globN (g off : Nat) : Option (IntKind × Int) :=
  if g = 0 ∧ off < 256 then some (.u8, if off = 9 ∨ off = 10 ∨ off = 11 ∨ off = 12 ∨ off = 13 ∨ off = 32 then 1 else 0) else if g = 2 ∧ off < 20 then some (.u64, 10 ^ off) else none

/-- A variable's whole block. -/
def globB (g : Nat) : Option (Array Value) := if g = 2 then some (((List.range 20).map fun i => Value.int .u64 (((10 ^ i : Nat) : Int))).toArray) else none
theorem globB_N {g : Nat} (h : globB g ≠ none) : ∃ k n, globN g 0 = some (k, n) := by
  unfold globB at h
  split at h
  · rename_i hg
    subst hg
    exact ⟨.u64, 1, by simp [globN]⟩
  · exact absurd rfl h
def GL (E : En) (w : World) : Prop := (∀ g o k n, globN g o = some (k, n) → E.I g o = some (.int k n)) ∧ ∀ g cs, globB g = some cs → ∃ t fz, w.heap[g]? = some (.cells cs t fz)
theorem GL.old {E E' : En} {w w' : World} (h : GL E w) (hI : ∀ b o c, E.I b o = some c → E'.I b o = some c) (hw : ∀ b cs t fz, w.heap[b]? = some (.cells cs t fz) → globB b ≠ none → w'.heap[b]? = w.heap[b]?) : GL E' w' :=
  ⟨fun g o k n hg => hI _ _ _ (h.1 g o k n hg), fun g cs hg => let ⟨t, fz, hh⟩ := h.2 g cs hg; ⟨t, fz, (hw g cs t fz hh (by rw [hg]; simp)).trans hh⟩⟩
theorem heap_lt {w : World} {b : Nat} {o : Obj} (h : w.heap[b]? = some o) : b < w.heap.size := (Array.getElem?_eq_some_iff.1 h).1

structure SR (E : En) (S : St) (w : World) : Prop where
  gl : GL E w
  I : ∀ b o c, E.I b o = some c → w.cell? ⟨b, o, none⟩ = some c
  obs : ∀ l o, S[l]? = some o → OR E w l o
  dom : ∀ l st x, E.ρ l st = some x → l < S.length
  apart : ∀ b o, own E S b → E.I b o = none
  lt : ∀ b, own E S b → b < w.heap.size
  inj : ∀ l l' st st' x x', live S l → live S l' → E.ρ l st = some x → E.ρ l' st' = some x' → x.b = x'.b → l = l'

/-- What a step may do: n objects are the caller's. -/
structure Ext (n : Nat) (E : En) (S : St) (w : World) (E' : En) (S' : St) (w' : World) : Prop where
  size : w.heap.size ≤ w'.heap.size
  I : ∀ b o c, E.I b o = some c → E'.I b o = some c
  ρ : ∀ l st x, l < n → E.ρ l st = some x → E'.ρ l st = some x
  no : ∀ l, l < n → (∀ st, E.ρ l st = none) → ∀ st, E'.ρ l st = none
  own : ∀ b, own E' S' b → own E S b ∨ w.heap.size ≤ b
  newI : ∀ b o c, E'.I b o = some c → E.I b o = some c ∨ Go.Proofs.YtbifpocccfkhhaaGreatDoor.own E S b ∨ w.heap.size ≤ b
  frame : ∀ b, b < w.heap.size → ¬ Go.Proofs.YtbifpocccfkhhaaGreatDoor.own E S b → w'.heap[b]? = w.heap[b]?
  out : (w'.output, w'.os) = (w.output, w.os)

theorem Ext.refl (n : Nat) (E : En) (S : St) (w : World) : Ext n E S w E S w :=
  ⟨Nat.le_refl _, fun _ _ _ h => h, fun _ _ _ _ h => h, fun _ _ h => h, fun _ h => .inl h, fun _ _ _ h => .inl h, fun _ _ _ => rfl, rfl⟩

theorem Ext.trans {n : Nat} {E E1 E2 : En} {S S1 S2 : St} {w w1 w2 : World} (h : Ext n E S w E1 S1 w1) (g : Ext n E1 S1 w1 E2 S2 w2) : Ext n E S w E2 S2 w2 where
  size := Nat.le_trans h.size g.size
  I b o c x := g.I b o c (h.I b o c x)
  ρ l st x hl hx := g.ρ l st x hl (h.ρ l st x hl hx)
  no l hl hx := g.no l hl (h.no l hl hx)
  own b hb := by
    rcases g.own b hb with hb | hb
    · exact h.own b hb
    · exact .inr (Nat.le_trans h.size hb)
  newI b o c hc := by
    rcases g.newI b o c hc with hc | hb | hb
    · exact h.newI b o c hc
    · exact .inr (h.own b hb)
    · exact .inr (.inr (Nat.le_trans h.size hb))
  frame b hb hn := by
    rw [g.frame b (Nat.lt_of_lt_of_le hb h.size) (fun ho => ?_), h.frame b hb hn]
    rcases h.own b ho with ho | ho
    · exact hn ho
    · omega
  out := g.out.trans h.out

theorem Ext.less {n m : Nat} {E E' : En} {S S' : St} {w w' : World} (h : Ext n E S w E' S' w') (hm : m ≤ n) : Ext m E S w E' S' w' :=
  { h with ρ := fun l st x hl hx => h.ρ l st x (Nat.lt_of_lt_of_le hl hm) hx, no := fun l hl hx => h.no l (Nat.lt_of_lt_of_le hl hm) hx }

theorem Ext.le {E E' : En} {S S' : St} {w w' : World} (h : Ext S.length E S w E' S' w') (r : SR E S w) : E.le E' :=
  ⟨h.I, fun l st x hx => h.ρ l st x (r.dom l st x hx) hx⟩

theorem Tmps.mono {E E' : En} {e : Env} {tmps : Array Value} (h : Tmps E e tmps) (g : E.le E') : Tmps E' e tmps :=
  fun t v hv => let ⟨u, hu, r⟩ := h t v hv; ⟨u, hu, r.mono g⟩

theorem Tmps.put {E : En} {e : Env} {tmps : Array Value} (h : Tmps E e tmps) {d : Nat} {v : V} {u : Value} (hd : d < tmps.size) (r : VR E v u) : Tmps E (e.put (some d) v) (tmps.setIfInBounds d u) := by
  intro t v' hv
  simp only [Env.put, Env.get] at hv
  split at hv
  · rename_i hk; subst hk; cases hv
    exact ⟨u, by simp [hd], r⟩
  · rename_i hk
    obtain ⟨u', hu, r'⟩ := h t v' hv
    exact ⟨u', by rw [Array.getElem?_setIfInBounds_ne hk]; exact hu, r'⟩

theorem Env.get_keep {e : Env} : ∀ {ts : List Nat} {t : Nat} {v : V}, (e.keep ts).get t = some v → e.get t = some v
  | [], _, _, h => by simp [Env.keep, Env.get] at h
  | s :: ts, t, v, h => by
    simp only [Env.keep] at h
    split at h
    · rename_i v' hv
      simp only [Env.get] at h
      split at h
      · rename_i hk; subst hk; cases h; exact hv
      · exact Env.get_keep h
    · exact Env.get_keep h
theorem Tmps.keep {E : En} {e : Env} {tmps : Array Value} (h : Tmps E e tmps) (ts : List Nat) : Tmps E (e.keep ts) tmps := fun t v hv => h t v (Env.get_keep hv)

/-- The marks of ranges over functions among the deferred calls: blocks of our own, from m on, that hold nothing. -/
def MarksL (m : Nat) (E : En) (S : St) (w : World) : List Deferred → Prop
  | [] => True
  | d :: ds => (∃ r, d.target = .collected r ∧ m ≤ r ∧ w.heap[r]? = some (.deferred (some [])) ∧ ¬ own E S r ∧ ∀ d', d' ∈ ds → d'.target ≠ .collected r) ∧ MarksL m E S w ds

theorem MarksL.step {m n : Nat} {E E' : En} {S S' : St} {w w' : World} (h : Ext n E S w E' S' w') : ∀ {ds : List Deferred}, MarksL m E S w ds → MarksL m E' S' w' ds
  | [], _ => trivial
  | d :: ds, ⟨⟨r, h1, h2, h3, h4, h5⟩, hd⟩ => by
    have hlt : r < w.heap.size := (Array.getElem?_eq_some_iff.1 h3).1
    refine ⟨⟨r, h1, h2, (h.frame r hlt h4).trans h3, fun ho => ?_, h5⟩, MarksL.step h hd⟩
    rcases h.own r ho with ho | ho
    · exact h4 ho
    · omega

def Marks (m : Nat) (E : En) (S : St) (w : World) (ds : List Deferred) : Prop := m ≤ w.heap.size ∧ MarksL m E S w ds

theorem Marks.step {m n : Nat} {E E' : En} {S S' : St} {w w' : World} {ds : List Deferred} (h : Ext n E S w E' S' w') (g : Marks m E S w ds) : Marks m E' S' w' ds :=
  ⟨Nat.le_trans g.1 h.size, g.2.step h⟩

structure Rel (N : Nat) (n0 m0 : Nat) (E : En) (e : Env) (S : St) (a : Act) (w : World) : Prop where
  tmps : Tmps E e a.tmps
  size : a.tmps.size = N
  defers : Marks m0 E S w a.defers
  base : n0 ≤ S.length
  sr : SR E S w
end Go.Proofs.YtbifpocccfkhhaaGreatDoor
/- Changes of the abstract store, and what they ask of memory. -/
namespace Go.Proofs.YtbifpocccfkhhaaGreatDoor
open Go

def En.at (E : En) (l st : Nat) (x : Blk) : En := { E with ρ := fun l' st' => if l' = l ∧ st' = st then some x else E.ρ l' st' }
def En.lay (E : En) (b : Nat) (cells : Array Value) : En := { E with I := fun b' o => if b' = b then cells[o]? else E.I b' o }

theorem Holds.mono {E E' : En} {w w' : World} {x : Blk} {xs : List V} {n : Nat} (h : Holds E w x xs n) (g : E.le E') (hw : w'.heap[x.b]? = w.heap[x.b]?) : Holds E' w' x xs n := by
  obtain ⟨cells, t, h1, h2, h3, h4⟩ := h
  refine ⟨cells, t, hw.trans h1, h2, h3, fun i v hv hi j c' hc => ?_⟩
  obtain ⟨c, hc1, hc2⟩ := h4 i v hv hi j c' hc
  exact ⟨c, hc1, hc2.mono g⟩

theorem OR.mono {E E' : En} {w w' : World} {l : Nat} {o : Ob} (h : OR E w l o) (g : E.le E') (hb : ∀ st x, E'.ρ l st = some x → E.ρ l st = some x)
    (hw : ∀ st x, E.ρ l st = some x → w'.heap[x.b]? = w.heap[x.b]?) : OR E' w' l o := by
  cases o with
  | arr xs sz wr =>
    obtain ⟨h0, h1, h2⟩ := h
    refine ⟨h0, h1, fun st x hx hwr => ?_⟩
    obtain ⟨a, b, c⟩ := h2 st x (hb st x hx) hwr
    exact ⟨a, b, c.mono g (hw st x (hb st x hx))⟩
  | map es bs ck =>
    obtain ⟨x, entries, h1, h2, h3, hb, h4⟩ := h
    refine ⟨x, entries, g.2 _ _ _ h1, (hw 0 x h1).trans h2, h3, hb, fun i k v e hk he => ?_⟩
    obtain ⟨a, b⟩ := h4 i k v e hk he
    exact ⟨a.mono g, b.mono g⟩
  | iter lm since seen last =>
    obtain ⟨x, y, h1, h2, h3⟩ := h
    exact ⟨x, y, g.2 _ _ _ h1, g.2 _ _ _ h2, (hw 0 x h1).trans h3⟩
  | dead => trivial
  | loop i =>
    obtain ⟨x, r, h1, h2, h3, h4, h5, h6, h7, h8, h9⟩ := h
    exact ⟨x, r, g.2 _ _ _ h1, (hw 0 x h1).trans h2, h3, h4, h5, h6, h7, h8, h9.mono g⟩

theorem cell?_heap {w w' : World} {b o : Nat} (h : w'.heap[b]? = w.heap[b]?) : w'.cell? ⟨b, o, none⟩ = w.cell? ⟨b, o, none⟩ := by
  unfold World.cell?; simp only [h]

theorem cell?_lt {w : World} {b o : Nat} {c : Value} (h : w.cell? ⟨b, o, none⟩ = some c) : b < w.heap.size := by
  unfold World.cell? at h
  rcases Nat.lt_or_ge b w.heap.size with hb | hb
  · exact hb
  · simp [Array.getElem?_eq_none hb] at h

theorem push_old {w : World} {o : Obj} {b : Nat} (h : b < w.heap.size) : ({ w with heap := w.heap.push o } : World).heap[b]? = w.heap[b]? := by
  simp only [Array.getElem?_push]; rw [if_neg (by omega)]
theorem push_new {w : World} {o : Obj} : ({ w with heap := w.heap.push o } : World).heap[w.heap.size]? = some o := by
  simp

/-- Only what no cell tells has changed. -/
theorem SR.heap {E : En} {S : St} {w w' : World} (h : SR E S w) (hw : w'.heap = w.heap) : SR E S w' where
  gl := h.gl.old (fun _ _ _ h => h) (fun b _ _ _ _ _ => by rw [hw])
  I b o c hc := (cell?_heap (w := w) (w' := w') (by rw [hw])).trans (h.I b o c hc)
  obs l o ho := (h.obs l o ho).mono (En.le_refl E) (fun _ _ x => x) (fun _ _ _ => by rw [hw])
  dom := h.dom
  apart := h.apart
  lt b hb := by rw [hw]; exact h.lt b hb
  inj := h.inj
theorem Ext.heap {E : En} {S : St} {w w' : World} (n : Nat) (hw : w'.heap = w.heap) (ho : (w'.output, w'.os) = (w.output, w.os)) : Ext n E S w E S w' :=
  { Ext.refl n E S w with size := by rw [hw]; exact Nat.le_refl _, own := fun _ h => .inl h, newI := fun _ _ _ h => .inl h, frame := fun _ _ _ => by rw [hw], out := ho }

theorem live_lt {S : St} {l : Nat} (h : live S l) : l < S.length := by
  obtain ⟨o, ho, _⟩ := h; exact (List.getElem?_eq_some_iff.1 ho).1
theorem live_append {S : St} {o : Ob} {l : Nat} (h : live (S ++ [o]) l) : live S l ∨ l = S.length := by
  obtain ⟨p, hp, hd⟩ := h
  rcases Nat.lt_trichotomy l S.length with hl | hl | hl
  · exact .inl ⟨p, by rw [List.getElem?_append_left hl] at hp; exact hp, hd⟩
  · exact .inr hl
  · have := (List.getElem?_eq_some_iff.1 hp).1
    simp at this; omega
theorem live_of_append {S : St} {o : Ob} {l : Nat} (h : live S l) : live (S ++ [o]) l := by
  obtain ⟨p, hp, hd⟩ := h
  exact ⟨p, by rw [List.getElem?_append_left (List.getElem?_eq_some_iff.1 hp).1]; exact hp, hd⟩

theorem at_same {E : En} {l st : Nat} {x : Blk} : (E.at l st x).ρ l st = some x := by simp [En.at]
theorem at_other {E : En} {l st l' st' : Nat} {x : Blk} (h : l' ≠ l) : (E.at l st x).ρ l' st' = E.ρ l' st' := by simp [En.at, h]
theorem at_le {E : En} {l st : Nat} {x : Blk} (h : E.ρ l st = none) : E.le (E.at l st x) :=
  ⟨fun _ _ _ h => h, fun l' st' y hy => by
    by_cases hk : l' = l ∧ st' = st
    · obtain ⟨rfl, rfl⟩ := hk; rw [h] at hy; cases hy
    · simp [En.at, hk]; exact hy⟩

/-- A new object. -/
theorem SR.new {E : En} {S : St} {w : World} (h : SR E S w) {o : Obj} {ob : Ob} {st N sz : Nat}
    (ho : OR (E.at S.length st ⟨w.heap.size, N, sz⟩) { w with heap := w.heap.push o } S.length ob) :
    SR (E.at S.length st ⟨w.heap.size, N, sz⟩) (S ++ [ob]) { w with heap := w.heap.push o } ∧
    Ext S.length E S w (E.at S.length st ⟨w.heap.size, N, sz⟩) (S ++ [ob]) { w with heap := w.heap.push o } := by
  have hno : ∀ st', E.ρ S.length st' = none := fun st' => by
    cases hr : E.ρ S.length st' with
    | none => rfl
    | some x => exact absurd (h.dom _ _ _ hr) (by omega)
  have hle : E.le (E.at S.length st ⟨w.heap.size, N, sz⟩) := at_le (hno st)
  have hown : ∀ b, own (E.at S.length st ⟨w.heap.size, N, sz⟩) (S ++ [ob]) b → own E S b ∨ b = w.heap.size := by
    rintro b ⟨l, st', x, hl, hx, rfl⟩
    by_cases hk : l = S.length
    · subst hk
      by_cases hs : st' = st
      · subst hs; rw [at_same] at hx; cases hx; exact .inr rfl
      · simp [En.at, hs, hno] at hx
    · rw [at_other hk] at hx
      exact .inl ⟨l, st', x, (live_append hl).resolve_right hk, hx, rfl⟩
  refine ⟨⟨h.gl.old hle.1 (fun b _ _ _ hb _ => push_old (heap_lt hb)), ?_, ?_, ?_, ?_, ?_, ?_⟩, ⟨by simp, hle.1, fun l st' x _ hx => hle.2 l st' x hx, fun l hl hx st' => by rw [at_other (by omega)]; exact hx st', fun b hb => (hown b hb).imp id (fun e => by omega), fun b o c hc => .inl hc, fun b hb _ => push_old hb, rfl⟩⟩
  · intro b o' c hc
    have := h.I b o' c hc
    rw [cell?_heap (push_old (cell?_lt this))]; exact this
  · intro l o' hl
    rcases Nat.lt_trichotomy l S.length with hlt | heq | hgt
    · rw [List.getElem?_append_left hlt] at hl
      by_cases hd : o' = .dead
      · subst hd; trivial
      refine (h.obs l o' hl).mono hle (fun st' x hx => by rw [at_other (by omega)] at hx; exact hx) (fun st' x hx => push_old (h.lt _ ⟨l, st', x, ⟨o', hl, hd⟩, hx, rfl⟩))
    · subst heq
      simp at hl; subst hl; exact ho
    · have := (List.getElem?_eq_some_iff.1 hl).1
      simp at this; omega
  · intro l st' x hx
    by_cases hk : l = S.length
    · subst hk; simp
    · rw [at_other hk] at hx; have := h.dom _ _ _ hx; simp; omega
  · intro b o' hb
    rcases hown b hb with hb | rfl
    · exact h.apart b o' hb
    · cases hc : E.I w.heap.size o' with
      | none => exact hc
      | some c => exact absurd (cell?_lt (h.I _ _ _ hc)) (by omega)
  · intro b hb
    rcases hown b hb with hb | rfl
    · have := h.lt b hb; simp; omega
    · simp
  · intro l l' st1 st2 x x' hl hl' hx hx' hb
    have key : ∀ l st' x, live (S ++ [ob]) l → (E.at S.length st ⟨w.heap.size, N, sz⟩).ρ l st' = some x → (l = S.length ∧ x.b = w.heap.size) ∨ (l ≠ S.length ∧ live S l ∧ E.ρ l st' = some x ∧ x.b < w.heap.size) := by
      intro l st' x hl hx
      by_cases hk : l = S.length
      · subst hk
        by_cases hs : st' = st
        · subst hs; rw [at_same] at hx; cases hx; exact .inl ⟨rfl, rfl⟩
        · simp [En.at, hs, hno] at hx
      · rw [at_other hk] at hx
        have hl := (live_append hl).resolve_right hk
        exact .inr ⟨hk, hl, hx, h.lt _ ⟨l, st', x, hl, hx, rfl⟩⟩
    rcases key l st1 x hl hx with ⟨h1, h2⟩ | ⟨h1, h2, h3, h4⟩ <;> rcases key l' st2 x' hl' hx' with ⟨g1, g2⟩ | ⟨g1, g2, g3, g4⟩
    · omega
    · omega
    · omega
    · exact h.inj l l' st1 st2 x x' h2 g2 h3 g3 hb

/-- A new object that is never written. -/
theorem SR.lay {E : En} {S : St} {w : World} (h : SR E S w) (cells : Array Value) (t : TypeId) :
    SR (E.lay w.heap.size cells) S { w with heap := w.heap.push (.cells cells t (0, 0)) } ∧ E.le (E.lay w.heap.size cells) ∧
    Ext S.length E S w (E.lay w.heap.size cells) S { w with heap := w.heap.push (.cells cells t (0, 0)) } := by
  have hno : ∀ o, E.I w.heap.size o = none := fun o => by
    cases hc : E.I w.heap.size o with
    | none => rfl
    | some c => exact absurd (cell?_lt (h.I _ _ _ hc)) (by omega)
  have hle : E.le (E.lay w.heap.size cells) := ⟨fun b o c hc => by
    by_cases hb : b = w.heap.size
    · subst hb; rw [hno] at hc; cases hc
    · simp [En.lay, hb]; exact hc, fun _ _ _ h => h⟩
  refine ⟨⟨h.gl.old hle.1 (fun b _ _ _ hb _ => push_old (heap_lt hb)), ?_, ?_, h.dom, ?_, ?_, h.inj⟩, hle, ⟨by simp, hle.1, fun _ _ _ _ hx => hx, fun _ _ hx => hx, fun b hb => .inl hb, ?_, fun b hb _ => push_old hb, rfl⟩⟩
  · intro b o c hc
    by_cases hb : b = w.heap.size
    · subst hb
      simp only [En.lay, if_true] at hc
      unfold World.cell?
      simpa using hc
    · simp only [En.lay, hb, if_false] at hc
      have := h.I b o c hc
      rw [cell?_heap (push_old (cell?_lt this))]; exact this
  · intro l o hl
    by_cases hd : o = .dead
    · subst hd; trivial
    exact (h.obs l o hl).mono hle (fun _ _ hx => hx) (fun st' x hx => push_old (h.lt _ ⟨l, st', x, ⟨o, hl, hd⟩, hx, rfl⟩))
  · intro b o hb
    have h1 := h.lt b hb
    simp only [En.lay]
    rw [if_neg (by omega)]
    exact h.apart b o hb
  · intro b hb; have := h.lt b hb; simp; omega
  · intro b o c hc
    by_cases hb : b = w.heap.size
    · exact .inr (.inr (by omega))
    · simp only [En.lay, hb, if_false] at hc; exact .inl hc

theorem live_set {S : St} {l l' : Nat} {o : Ob} (h : live (S.set l o) l') (hl : live S l) : live S l' := by
  by_cases hk : l' = l
  · subst hk; exact hl
  · obtain ⟨p, hp, hd⟩ := h
    rw [List.getElem?_set_ne (Ne.symm hk)] at hp
    exact ⟨p, hp, hd⟩

/-- One object changes: its cells, its map, or where it lies. -/
theorem SR.change {E E' : En} {S : St} {w w' : World} {l : Nat} {ob : Ob} (h : SR E S w) (hl : live S l) (hI : E'.I = E.I) (hle : E.le E')
    (ho : ∀ l' st, l' ≠ l → E'.ρ l' st = E.ρ l' st)
    (hb : ∀ st y, E'.ρ l st = some y → (∃ st' z, E.ρ l st' = some z ∧ z.b = y.b) ∨ (w.heap.size ≤ y.b ∧ y.b < w'.heap.size ∧ ∃ st' z, E.ρ l st' = some z))
    (hs : w.heap.size ≤ w'.heap.size) (hw : ∀ b, b < w.heap.size → (∀ st y, E.ρ l st = some y → y.b ≠ b) → w'.heap[b]? = w.heap[b]?)
    (hout : (w'.output, w'.os) = (w.output, w.os)) (hn : OR E' w' l ob) : SR E' (S.set l ob) w' ∧ Ext S.length E S w E' (S.set l ob) w' := by
  have hown : ∀ b, own E' (S.set l ob) b → own E S b ∨ (w.heap.size ≤ b ∧ b < w'.heap.size) := by
    rintro b ⟨l', st, x, hl', hx, rfl⟩
    by_cases hk : l' = l
    · subst hk
      rcases hb st x hx with ⟨st', z, hz, he⟩ | hb
      · exact .inl ⟨l', st', z, hl, hz, he⟩
      · exact .inr ⟨hb.1, hb.2.1⟩
    · rw [ho l' st hk] at hx
      exact .inl ⟨l', st, x, live_set hl' hl, hx, rfl⟩
  have hnot : ∀ b, b < w.heap.size → ¬ own E S b → w'.heap[b]? = w.heap[b]? := fun b hlt hno => hw b hlt fun st y hy e => hno ⟨l, st, y, hl, hy, e⟩
  refine ⟨⟨h.gl.old hle.1 (fun b _ _ _ hb hg => hw b (heap_lt hb) fun st y hy he => by
    obtain ⟨k, n, hn⟩ := globB_N hg
    have := h.gl.1 _ _ _ _ hn
    rw [h.apart b 0 ⟨l, st, y, hl, hy, he⟩] at this; cases this), ?_, ?_, ?_, ?_, ?_, ?_⟩, ⟨hs, hle.1, fun l' st x _ hx => hle.2 l' st x hx, fun l' _ hx st => by
      by_cases hk : l' = l
      · subst hk
        cases hy : E'.ρ l' st with
        | none => rfl
        | some y => rcases hb st y hy with ⟨st', z, hz, _⟩ | ⟨_, _, st', z, hz⟩ <;> (rw [hx st'] at hz; cases hz)
      · rw [ho l' st hk]; exact hx st, fun b hb' => (hown b hb').imp id And.left, fun b o c hc => .inl (by rw [hI] at hc; exact hc), hnot, hout⟩⟩
  · intro b o c hc
    rw [hI] at hc
    have h1 := h.I b o c hc
    rw [cell?_heap (hnot b (cell?_lt h1) fun ho' => by rw [h.apart b o ho'] at hc; cases hc)]; exact h1
  · intro l' o' hl'
    by_cases hk : l' = l
    · subst hk
      have := List.getElem?_set_self (l := S) (i := l') (a := ob) (live_lt hl)
      rw [this] at hl'; cases hl'; exact hn
    · rw [List.getElem?_set_ne (Ne.symm hk)] at hl'
      by_cases hd : o' = .dead
      · subst hd; trivial
      refine (h.obs l' o' hl').mono hle (fun st x hx => by rw [ho l' st hk] at hx; exact hx) (fun st x hx => ?_)
      have hlv : live S l' := ⟨o', hl', hd⟩
      exact hw _ (h.lt _ ⟨l', st, x, hlv, hx, rfl⟩) fun st' y hy e => hk (h.inj l' l st st' x y hlv hl hx hy e.symm)
  · intro l' st x hx
    by_cases hk : l' = l
    · subst hk; simp [live_lt hl]
    · rw [ho l' st hk] at hx; have := h.dom _ _ _ hx; simpa using this
  · intro b o hb'
    rw [hI]
    rcases hown b hb' with hb' | ⟨hb', _⟩
    · exact h.apart b o hb'
    · cases hc : E.I b o with
      | none => rfl
      | some c => exact absurd (cell?_lt (h.I _ _ _ hc)) (by omega)
  · intro b hb'
    rcases hown b hb' with hb' | hb'
    · exact Nat.lt_of_lt_of_le (h.lt b hb') hs
    · exact hb'.2
  · intro l1 l2 st1 st2 x x' h1 h2 hx hx' he
    by_cases k1 : l1 = l <;> by_cases k2 : l2 = l
    · omega
    · exfalso
      subst k1
      rw [ho l2 st2 k2] at hx'
      have hv2 : live S l2 := live_set h2 hl
      rcases hb st1 x hx with ⟨st', z, hz, hzb⟩ | ⟨hge, _⟩
      · exact k2 (h.inj l2 l1 st2 st' x' z hv2 hl hx' hz (by omega))
      · have := h.lt _ ⟨l2, st2, x', hv2, hx', rfl⟩; omega
    · exfalso
      subst k2
      rw [ho l1 st1 k1] at hx
      have hv1 : live S l1 := live_set h1 hl
      rcases hb st2 x' hx' with ⟨st', z, hz, hzb⟩ | ⟨hge, _⟩
      · exact k1 (h.inj l1 l2 st1 st' x z hv1 hl hx hz (by omega))
      · have := h.lt _ ⟨l1, st1, x, hv1, hx, rfl⟩; omega
    · rw [ho l1 st1 k1] at hx; rw [ho l2 st2 k2] at hx'
      exact h.inj l1 l2 st1 st2 x x' (live_set h1 hl) (live_set h2 hl) hx hx' he
end Go.Proofs.YtbifpocccfkhhaaGreatDoor
/- What the machine's operations on memory do, in the words of abstract values: cells read and written. -/
namespace Go.Proofs.YtbifpocccfkhhaaGreatDoor
open Go

/-- Cells written one behind the other. -/
def over (C : Array Value) (o : Nat) : List Value → Array Value
  | [] => C
  | u :: us => over (C.setIfInBounds o u) (o + 1) us

theorem over_size : ∀ (us : List Value) (C : Array Value) (o : Nat), (over C o us).size = C.size
  | [], _, _ => rfl
  | u :: us, C, o => by rw [over, over_size us]; simp
theorem over_get : ∀ (us : List Value) (C : Array Value) (o k : Nat), o + us.length ≤ C.size → (over C o us)[k]? = if o ≤ k ∧ k < o + us.length then us[k - o]? else C[k]?
  | [], C, o, k, _ => by simp only [over, List.length_nil]; rw [if_neg (by omega)]
  | u :: us, C, o, k, h => by
    simp only [List.length_cons] at h
    rw [over, over_get us _ _ _ (by simp; omega)]
    by_cases h1 : k = o
    · subst h1
      rw [if_neg (by omega), if_pos (by simp)]
      simp only [Nat.sub_self, List.getElem?_cons_zero]
      rw [Array.getElem?_setIfInBounds_self_of_lt (by omega)]
    · by_cases h2 : o + 1 ≤ k ∧ k < o + 1 + us.length
      · rw [if_pos h2, if_pos (by simp; omega)]
        obtain ⟨d, rfl⟩ : ∃ d, k = o + 1 + d := ⟨k - (o + 1), by omega⟩
        rw [show o + 1 + d - (o + 1) = d by omega, show o + 1 + d - o = d + 1 by omega, List.getElem?_cons_succ]
      · rw [if_neg h2, if_neg (by simp; omega), Array.getElem?_setIfInBounds_ne (Ne.symm h1)]

def Value.flat : Value → Bool
  | .agg _ => false
  | .tuple _ => false
  | _ => true

def World.put (w : World) (b : Nat) (C : Array Value) (t : TypeId) : World := { w with heap := w.heap.setIfInBounds b (.cells C t (0, 0)) }

theorem put_same {w : World} {b : Nat} {C : Array Value} {t : TypeId} (h : b < w.heap.size) : (World.put w b C t).heap[b]? = some (.cells C t (0, 0)) := by
  simp [World.put, h]
theorem put_other {w : World} {b b' : Nat} {C : Array Value} {t : TypeId} (h : b' ≠ b) : (World.put w b C t).heap[b']? = w.heap[b']? := by
  simp [World.put, Array.getElem?_setIfInBounds_ne (Ne.symm h)]
theorem put_size {w : World} {b : Nat} {C : Array Value} {t : TypeId} : (World.put w b C t).heap.size = w.heap.size := by simp [World.put]

theorem cell?_of {w : World} {b o : Nat} {C : Array Value} {t : TypeId} {f : Nat × Nat} (h : w.heap[b]? = some (.cells C t f)) : w.cell? ⟨b, o, none⟩ = C[o]? := by
  simp [World.cell?, h]
theorem frozen?_of {w : World} {b o : Nat} {C : Array Value} {t : TypeId} (h : w.heap[b]? = some (.cells C t (0, 0))) : w.frozen? ⟨b, o, none⟩ = false := by
  simp [World.frozen?, h]

theorem setCell_put {w : World} {b o : Nat} {C : Array Value} {t : TypeId} {v : Value} (h : w.heap[b]? = some (.cells C t (0, 0))) : w.setCell ⟨b, o, none⟩ v = World.put w b (C.setIfInBounds o v) t := by
  have hb : b < w.heap.size := (Array.getElem?_eq_some_iff.1 h).1
  have he : w.heap[b] = .cells C t (0, 0) := (Array.getElem?_eq_some_iff.1 h).2
  unfold World.setCell World.put
  congr 1
  apply Array.ext_getElem?
  intro i
  by_cases hi : i = b
  · subst hi
    rw [Array.getElem?_setIfInBounds_self_of_lt hb]
    rw [Array.getElem?_modify]
    simp [h]
  · rw [Array.getElem?_setIfInBounds_ne (Ne.symm hi), Array.getElem?_modify, if_neg (Ne.symm hi)]

theorem put_put {w : World} {b : Nat} {C D : Array Value} {t : TypeId} : World.put (World.put w b C t) b D t = World.put w b D t := by
  simp [World.put]
theorem put_id {w : World} {b : Nat} {C : Array Value} {t : TypeId} (h : w.heap[b]? = some (.cells C t (0, 0))) : World.put w b C t = w := by
  have hb : b < w.heap.size := (Array.getElem?_eq_some_iff.1 h).1
  have : w.heap.setIfInBounds b (.cells C t (0, 0)) = w.heap := by
    apply Array.ext_getElem?
    intro i
    by_cases hi : i = b
    · subst hi; rw [Array.getElem?_setIfInBounds_self_of_lt hb, h]
    · rw [Array.getElem?_setIfInBounds_ne (Ne.symm hi)]
  unfold World.put; rw [this]

theorem add_none (b o i : Nat) : (⟨b, o, none⟩ : Addr).add i = ⟨b, o + i, none⟩ := by
  unfold Addr.add; split
  · rename_i h; subst h; rfl
  · rfl

theorem run_store1 {P : Program} {w : World} {b o : Nat} {C : Array Value} {t : TypeId} {v : Value} (h : w.heap[b]? = some (.cells C t (0, 0))) (ho : o < C.size) (hv : Value.flat v = true) :
    (store ⟨b, o, none⟩ v).run P w = .ok () (World.put w b (C.setIfInBounds o v) t) := by
  have hc : w.cell? ⟨b, o, none⟩ = some C[o] := by rw [cell?_of h]; simp [ho]
  rw [← setCell_put h]
  cases v <;> first | (simp [Value.flat] at hv; done) | simp [store, Sem.run, hc, frozen?_of h]

theorem run_storeCells {P : Program} {b o : Nat} {t : TypeId} : ∀ (us : List Value) (i : Nat) (w : World) (C : Array Value), w.heap[b]? = some (.cells C t (0, 0)) → o + i + us.length ≤ C.size →
    (∀ u, u ∈ us → Value.flat u = true) → (storeCells ⟨b, o, none⟩ us i).run P w = .ok () (World.put w b (over C (o + i) us) t)
  | [], i, w, C, h, _, _ => by simp only [storeCells, over]; rw [put_id h]; rfl
  | u :: us, i, w, C, h, hs, hf => by
    simp only [List.length_cons] at hs
    simp only [storeCells, add_none, Sem.run_bind]
    rw [run_store1 h (by omega) (hf u (by simp))]
    simp only [Result.andThen]
    have hb : b < w.heap.size := (Array.getElem?_eq_some_iff.1 h).1
    rw [run_storeCells us (i + 1) _ _ (put_same hb) (by simp; omega) (fun x hx => hf x (by simp [hx])), put_put]
    rfl

theorem run_load1 {P : Program} {w : World} {b o : Nat} {u : Value} (h : w.cell? ⟨b, o, none⟩ = some u) : (load ⟨b, o, none⟩).run P w = .ok u w := by
  simp [load, Sem.run, h]

theorem run_loadFrom {P : Program} {w : World} {b o : Nat} : ∀ (n i : Nat) (acc : Array Value) (us : List Value), us.length = n → (∀ j, j < n → w.cell? ⟨b, o + i + j, none⟩ = us[j]?) →
    (loadCellsFrom ⟨b, o, none⟩ i n acc).run P w = .ok (acc ++ us.toArray) w
  | 0, i, acc, us, hl, _ => by
    have : us = [] := List.length_eq_zero_iff.1 hl
    subst this
    simp [loadCellsFrom, Sem.run_pure]
  | n + 1, i, acc, us, hl, h => by
    cases us with
    | nil => simp at hl
    | cons u us =>
      simp only [List.length_cons, Nat.add_right_cancel_iff] at hl
      simp only [loadCellsFrom, add_none, Sem.run_bind]
      rw [run_load1 (u := u) (by simpa using h 0 (by omega))]
      simp only [Result.andThen]
      rw [run_loadFrom n (i + 1) (acc.push u) us hl (fun j hj => by
        have := h (j + 1) (by omega)
        rw [List.getElem?_cons_succ] at this
        rw [← this]; congr 2; omega)]
      simp

theorem run_loadCells {P : Program} {w : World} {b o n : Nat} {us : List Value} (hl : us.length = n) (h : ∀ j, j < n → w.cell? ⟨b, o + j, none⟩ = us[j]?) :
    (loadCells ⟨b, o, none⟩ n).run P w = .ok us.toArray w := by
  unfold loadCells
  rw [run_loadFrom n 0 #[] us hl (by simpa using h)]
  simp
end Go.Proofs.YtbifpocccfkhhaaGreatDoor
/- Reading, writing and making, in the words of abstract values. -/
namespace Go.Proofs.YtbifpocccfkhhaaGreatDoor
open Go

def V.flat : V → Bool
  | .agg _ => false
  | .tup _ => false
  | .top => false
  | _ => true
def V.isAgg : V → Bool
  | .agg _ => true
  | _ => false
def V.size (v : V) : Nat := v.cells.length

/-- A part of a value: a cell, or a struct of n cells. -/
def V.part (v : V) (off : Nat) : Option Nat → Option V
  | none => v.cells[off]?
  | some n => if off = 0 ∧ n = v.size ∧ v.isAgg = true then some v else match v with
    | .agg cs => if off + n ≤ cs.length then some (.agg ((cs.drop off).take n)) else none
    | _ => none

/-- A value with another part of n cells. -/
def V.upd (v : V) (off n : Nat) (x : V) : Option V :=
  if x.size = n ∧ (x.cells.all V.flat) = true then
    if off = 0 ∧ n = v.size then some x else match v with
    | .agg cs => if off + n ≤ cs.length then some (.agg (cs.take off ++ x.cells ++ cs.drop (off + n))) else none
    | _ => none
  else none

theorem VR.flat {E : En} {v : V} {u : Value} (h : VR E v u) (hv : v.flat = true) : Value.flat u = true := by
  cases h <;> first | rfl | (simp [V.flat] at hv)

theorem VR.cells {E : En} {v : V} {u : Value} (h : VR E v u) (hnt : v ≠ .top) : v.cells.length = u.cells.size ∧ ∀ (i : Nat) (c : V) (d : Value), v.cells[i]? = some c → u.cells[i]? = some d → VR E c d := by
  have one : ∀ {v : V} {u : Value}, VR E v u → v.cells = [v] → u.cells = #[u] → v.cells.length = u.cells.size ∧ ∀ (i : Nat) (c : V) (d : Value), v.cells[i]? = some c → u.cells[i]? = some d → VR E c d := by
    intro v u h h1 h2
    rw [h1, h2]
    refine ⟨rfl, fun i c d hc hd => ?_⟩
    cases i with
    | zero => simp at hc hd; subst hc; subst hd; exact h
    | succ i => simp at hc
  cases h with
  | top u => exact absurd rfl hnt
  | agg h g => exact ⟨h, g⟩
  | bool b => exact one (.bool b) rfl rfl
  | int k n => exact one (.int k n) rfl rfl
  | str s => exact one (.str s) rfl rfl
  | nilp => exact one .nilp rfl rfl
  | ptr i off hr => exact one (.ptr i off hr) rfl rfl
  | glob g off => exact one (.glob g off) rfl rfl
  | iptr off hI hv => exact one (.iptr off hI hv) rfl rfl
  | slnil x => exact one (.slnil x) rfl rfl
  | slz x a => exact one (.slz x a) rfl rfl
  | sl hc hx hs hI hv => exact one (.sl hc hx hs hI hv) rfl rfl
  | arr hr hN hc => exact one (.arr hr hN hc) rfl rfl
  | nilmap => exact one .nilmap rfl rfl
  | map hr => exact one (.map hr) rfl rfl
  | fn h1 h2 g1 g2 => exact one (.fn h1 h2 g1 g2) rfl rfl
  | nilfn => exact one .nilfn rfl rfl
  | iface t h => exact one (.iface t h) rfl rfl
  | niliface => exact one .niliface rfl rfl
  | yld hr => exact one (.yld hr) rfl rfl
  | tup h g => exact one (.tup h g) rfl rfl

theorem VR.cells_ex {E : En} {v : V} {u : Value} (h : VR E v u) (hv : v ≠ .top) {i : Nat} {c : V} (hc : v.cells[i]? = some c) : ∃ d, u.cells[i]? = some d ∧ VR E c d := by
  obtain ⟨h1, h2⟩ := h.cells hv
  have hi := (List.getElem?_eq_some_iff.1 hc).1
  have : i < u.cells.size := by omega
  exact ⟨u.cells[i], by simp [this], h2 i c _ hc (by simp [this])⟩

/-- Memory from an address on holds the cells of a value. -/
def At (E : En) (w : World) (b o : Nat) (v : V) : Prop := ∀ j c, v.cells[j]? = some c → ∃ d, w.cell? ⟨b, o + j, none⟩ = some d ∧ VR E c d

theorem At.cell {E : En} {P : Program} {w : World} {b o off : Nat} {v c : V} (h : At E w b o v) (hc : v.part off none = some c) : ∃ d, (load ⟨b, o + off, none⟩).run P w = .ok d w ∧ VR E c d := by
  obtain ⟨d, hd, hr⟩ := h off c hc
  exact ⟨d, run_load1 hd, hr⟩

theorem run_agg {E : En} {P : Program} {w : World} {b o n : Nat} {cs : List V} (hl : cs.length = n) (h : ∀ j c, cs[j]? = some c → ∃ d, w.cell? ⟨b, o + j, none⟩ = some d ∧ VR E c d) :
    ∃ us, (loadCells ⟨b, o, none⟩ n).run P w = .ok us w ∧ VR E (.agg cs) (.agg us) := by
  have hex : ∀ j, j < n → ∃ d, w.cell? ⟨b, o + j, none⟩ = some d := fun j hj => by
    obtain ⟨d, hd, _⟩ := h j cs[j] (by simp)
    exact ⟨d, hd⟩
  let us : List Value := (List.range n).map fun j => (w.cell? ⟨b, o + j, none⟩).getD undef
  have hus : us.length = n := by simp [us]
  have hget : ∀ j, j < n → w.cell? ⟨b, o + j, none⟩ = us[j]? := fun j hj => by
    obtain ⟨d, hd⟩ := hex j hj
    simp [us, hj, hd]
  refine ⟨us.toArray, run_loadCells hus hget, .agg (by simp [hus, hl]) fun i v u hv hu => ?_⟩
  have hi : i < n := by rw [← hl]; exact (List.getElem?_eq_some_iff.1 hv).1
  obtain ⟨d, hd, hr⟩ := h i v hv
  rw [hget i hi] at hd
  simp at hu
  rw [hd] at hu; cases hu; exact hr

theorem At.agg {E : En} {P : Program} {w : World} {b o off n : Nat} {v r : V} (h : At E w b o v) (hr : v.part off (some n) = some r) :
    ∃ us, (loadCells ⟨b, o + off, none⟩ n).run P w = .ok us w ∧ VR E r (.agg us) := by
  simp only [V.part] at hr
  split at hr
  · rename_i hc
    obtain ⟨rfl, rfl, ha⟩ := hc
    cases hr
    cases v <;> simp [V.isAgg] at ha
    rename_i cs
    exact run_agg rfl (fun j c hc => by simpa using h j c hc)
  · split at hr
    · rename_i cs
      split at hr
      · rename_i hle
        cases hr
        refine run_agg (by simp; omega) fun j c hc => ?_
        have hj : j < n := by
          have := (List.getElem?_eq_some_iff.1 hc).1
          simp at this; omega
        rw [List.getElem?_take_of_lt hj, List.getElem?_drop] at hc
        obtain ⟨d, hd, hr⟩ := h (off + j) c hc
        exact ⟨d, by rw [← hd]; congr 2; omega, hr⟩
      · cases hr
    · cases hr

/-- What a load of a type reads: some n for a struct or an array of n cells. -/
def loadKind (P : Program) (t : TypeId) : Option (Option Nat) :=
  match P.underlying t with
  | some (.struct _) | some (.array _ _) => (P.info? t).map fun i => some i.size
  | some _ => some none
  | none => none

theorem run_underlying' {P : Program} {t : TypeId} {d : TypeDesc} {w : World} (h : P.underlying t = some d) : (underlying t).run P w = .ok d w := by
  simp [underlying, program, Sem.run_bind, Sem.run, Result.andThen, h, Sem.run_pure]
theorem run_typeInfo {P : Program} {t : TypeId} {i : TypeInfo} {w : World} (h : P.info? t = some i) : (typeInfo t).run P w = .ok i w := by
  have h' : P.toTables.info? t = some i := h
  simp [typeInfo, program, Sem.run_bind, Sem.run, Result.andThen, h', Sem.run_pure]
theorem run_sizeOf {P : Program} {t : TypeId} {i : TypeInfo} {w : World} (h : P.info? t = some i) : (sizeOf t).run P w = .ok i.size w := by
  simp [sizeOf, run_typeInfo h, Result.andThen]

theorem run_loadVar {E : En} {P : Program} {w : World} {b o off : Nat} {v r : V} {t : TypeId} {k : Option Nat} (hk : loadKind P t = some k) (h : At E w b o v) (hr : v.part off k = some r) :
    ∃ u, (loadVar t ⟨b, o + off, none⟩).run P w = .ok u w ∧ VR E r u := by
  unfold loadKind at hk
  have scalar : ∀ d, P.underlying t = some d → (∀ fs, d ≠ .struct fs) → (∀ n e, d ≠ .array n e) → k = none → ∃ u, (loadVar t ⟨b, o + off, none⟩).run P w = .ok u w ∧ VR E r u := by
    intro d hd h1 h2 hk
    subst hk
    obtain ⟨u, hu, hr⟩ := h.cell (P := P) hr
    refine ⟨u, ?_, hr⟩
    have : (isAgg t).run P w = .ok false w := by
      simp only [isAgg, Sem.run_bind, run_underlying' hd, Result.andThen]
      cases d <;> first | rfl | exact absurd rfl (h1 _) | exact absurd rfl (h2 _ _)
    simp only [loadVar, Sem.run_bind, this, Result.andThen]
    exact hu
  have agg : ∀ d, P.underlying t = some d → (∃ fs, d = .struct fs) ∨ (∃ n e, d = .array n e) → ((P.info? t).map fun i => some i.size) = some k → ∃ u, (loadVar t ⟨b, o + off, none⟩).run P w = .ok u w ∧ VR E r u := by
    intro d hd h1 hk
    cases hi : P.info? t with
    | none => rw [hi] at hk; cases hk
    | some i =>
      rw [hi] at hk; cases hk
      obtain ⟨us, hu, hr⟩ := h.agg (P := P) hr
      have : (isAgg t).run P w = .ok true w := by
        simp only [isAgg, Sem.run_bind, run_underlying' hd, Result.andThen]
        rcases h1 with ⟨fs, rfl⟩ | ⟨n, e, rfl⟩ <;> rfl
      refine ⟨.agg us, ?_, hr⟩
      simp only [loadVar, Sem.run_bind, this, Result.andThen, if_true, run_sizeOf hi, hu]
      rfl
  cases hd : P.underlying t with
  | none => rw [hd] at hk; cases hk
  | some d =>
    rw [hd] at hk
    cases d <;> first
      | exact agg _ hd (.inl ⟨_, rfl⟩) hk
      | exact agg _ hd (.inr ⟨_, _, rfl⟩) hk
      | (cases hk; exact scalar _ hd (fun _ => by simp) (fun _ _ => by simp) rfl)

/-- What is read through a pointer. -/
def ldS (S : St) (p : V) (k : Option Nat) : Option V :=
  match p with
  | .iptr v off => v.part off k
  | .ptr l i off st => match S[l]? with
    | some (.arr xs _ wr) => if wr ≤ st ∧ i < st then (xs[i]?).bind fun v => v.part off k else none
    | _ => none
  | .glob g off => match globN g off with
    | some (kd, n) => (V.int kd n).part 0 k
    | none => none
  | _ => none

theorem At.of_I {E : En} {S : St} {w : World} (hs : SR E S w) {v : V} {b o : Nat} (hI : ∀ j, j < v.cells.length → (E.I b (o + j)).isSome = true)
    (hv : ∀ j c' c, v.cells[j]? = some c' → E.I b (o + j) = some c → VR E c' c) : At E w b o v := fun j c hc => by
  obtain ⟨d, hd⟩ := Option.isSome_iff_exists.1 (hI j (List.getElem?_eq_some_iff.1 hc).1)
  exact ⟨d, hs.I _ _ _ hd, hv j c d hc hd⟩

theorem At.of_ob {E : En} {S : St} {w : World} (hs : SR E S w) {l i st sz wr : Nat} {xs : List V} {v : V} {x : Blk} (ho : S[l]? = some (.arr xs sz wr)) (hx : E.ρ l st = some x) (hwr : wr ≤ st) (hi : i < st) (hv : xs[i]? = some v) :
    At E w x.b (i * x.sz) v := fun j c hc => by
  obtain ⟨h0, h1, h2⟩ := hs.obs l _ ho
  obtain ⟨h3, h4, cells, t, h5, h6, h7, h8⟩ := h2 st x hx hwr
  obtain ⟨d, hd, hr⟩ := h8 i v hv hi j c hc
  exact ⟨d, by rw [cell?_of h5]; exact hd, hr⟩

theorem sim_load {E : En} {S : St} {P : Program} {w : World} {p r : V} {u : Value} {t : TypeId} {k : Option Nat} (hs : SR E S w) (hp : VR E p u) (hk : loadKind P t = some k) (hr : ldS S p k = some r) :
    ∃ d, (Instr.loadAt t u).run P w = .ok d w ∧ VR E r d := by
  cases hp with
  | glob g off =>
    simp only [ldS] at hr
    split at hr
    · rename_i kd n hg
      obtain ⟨d, hd, hr⟩ := run_loadVar (P := P) (b := g) (o := off) hk (show At E w g off (.int kd n) from fun j c hc => by
        match j with
        | 0 => simp [V.cells] at hc; subst hc; exact ⟨_, hs.I _ _ _ (hs.gl.1 _ _ _ _ hg), .int kd n⟩
        | j + 1 => simp [V.cells] at hc) hr
      exact ⟨d, by simp only [Instr.loadAt, Instr.sureAddr, Sem.run_bind, Sem.run_pure, Result.andThen]; exact hd, hr⟩
    · cases hr
  | iptr off hI hv =>
    obtain ⟨d, hd, hr⟩ := run_loadVar (P := P) hk (At.of_I hs hI hv) hr
    exact ⟨d, by simp only [Instr.loadAt, Instr.sureAddr, Sem.run_bind, Sem.run_pure, Result.andThen]; exact hd, hr⟩
  | ptr i off hx =>
    simp only [ldS] at hr
    split at hr
    · rename_i xs sz wr ho
      split at hr
      · rename_i hc
        cases hv : xs[i]? with
        | none => rw [hv] at hr; cases hr
        | some v =>
          rw [hv] at hr
          obtain ⟨d, hd, hr⟩ := run_loadVar (P := P) hk (At.of_ob hs ho hx hc.1 hc.2 hv) hr
          exact ⟨d, by simp only [Instr.loadAt, Instr.sureAddr, Sem.run_bind, Sem.run_pure, Result.andThen]; exact hd, hr⟩
      · cases hr
    · cases hr
  | _ => simp [ldS] at hr
end Go.Proofs.YtbifpocccfkhhaaGreatDoor
/- Writing and making. -/
namespace Go.Proofs.YtbifpocccfkhhaaGreatDoor
open Go

/-- A write of a value of n cells through a pointer: only through the newest slice of an array. -/
def stS (S : St) (p : V) (n : Nat) (x : V) : Option St :=
  match p with
  | .ptr l i off st => match S[l]? with
    | some (.arr xs sz _) => if st = xs.length then (xs[i]?).bind fun v => (v.upd off n x).map fun v' => S.set l (.arr (xs.set i v') sz st) else none
    | _ => none
  | _ => none

theorem upd_spec {v x v' : V} {off n : Nat} (h : v.upd off n x = some v') : x.size = n ∧ x.cells.all V.flat = true ∧ off + n ≤ v.cells.length ∧ v'.cells.length = v.cells.length ∧
    ∀ j, v'.cells[j]? = if off ≤ j ∧ j < off + n then x.cells[j - off]? else v.cells[j]? := by
  unfold V.upd at h
  split at h
  · rename_i hc
    obtain ⟨h1, h2⟩ := hc
    refine ⟨h1, h2, ?_⟩
    split at h
    · rename_i hc
      obtain ⟨rfl, rfl⟩ := hc
      cases h
      unfold V.size at h1
      refine ⟨by simp [V.size], h1, fun j => ?_⟩
      by_cases hj : j < v.size
      · rw [if_pos (by omega)]; simp
      · rw [if_neg (by omega), List.getElem?_eq_none (by unfold V.size at hj; omega), List.getElem?_eq_none (by unfold V.size at hj; omega)]
    · split at h
      · rename_i cs _
        split at h
        · rename_i hle
          cases h
          have hx : x.cells.length = n := h1
          have e1 : (V.agg (cs.take off ++ x.cells ++ cs.drop (off + n))).cells = cs.take off ++ x.cells ++ cs.drop (off + n) := rfl
          have e2 : (V.agg cs).cells = cs := rfl
          rw [e1, e2] at *
          generalize x.cells = xc at *
          refine ⟨hle, by simp; omega, fun j => ?_⟩
          by_cases h1 : j < off
          · rw [if_neg (by omega), List.append_assoc, List.getElem?_append_left (by simp; omega), List.getElem?_take_of_lt h1]
          · by_cases h2 : j < off + n
            · rw [if_pos (by omega), List.append_assoc, List.getElem?_append_right (by simp; omega), List.getElem?_append_left (by simp; omega)]
              congr 1; simp; omega
            · rw [if_neg (by omega), List.getElem?_append_right (by simp; omega), List.getElem?_drop]
              congr 1; simp; omega
        · cases h
      · cases h
  · cases h

theorem flat_ne_top {x : V} (h : x.cells.all V.flat = true) : x ≠ .top := by
  rintro rfl; simp [V.cells, V.flat] at h

theorem flat_cells {E : En} {x : V} {u : Value} (h : VR E x u) (hf : x.cells.all V.flat = true) : ∀ c, c ∈ u.cells.toList → Value.flat c = true := by
  intro c hc
  obtain ⟨h1, h2⟩ := h.cells (flat_ne_top hf)
  obtain ⟨i, hi, he⟩ := List.getElem_of_mem hc
  have hi' : i < x.cells.length := by simp at hi; omega
  have := h2 i x.cells[i] c (by simp) (by rw [← he]; simp at hi; simp)
  exact this.flat (by simp at hf; exact hf _ (List.getElem_mem hi'))

theorem run_storeVar {E : En} {P : Program} {w : World} {b o : Nat} {C : Array Value} {t T : TypeId} {i : TypeInfo} {x : V} {u : Value} (hi : P.info? t = some i) (h : w.heap[b]? = some (.cells C T (0, 0)))
    (hx : VR E x u) (hf : x.cells.all V.flat = true) (hn : x.size = i.size) (ho : o + i.size ≤ C.size) :
    (storeVar t ⟨b, o, none⟩ u).run P w = .ok () (World.put w b (over C o u.cells.toList) T) := by
  obtain ⟨h1, h2⟩ := hx.cells (flat_ne_top hf)
  have hs : u.cells.size = i.size := by rw [← hn, V.size, h1]
  simp only [storeVar, Sem.run_bind, run_sizeOf hi, Result.andThen, hs, ne_eq, not_true_eq_false, if_false]
  rw [run_storeCells u.cells.toList 0 w C h (by simp; omega) (flat_cells hx hf)]
  simp

theorem sim_store {E : En} {S S' : St} {P : Program} {w : World} {p x : V} {u d : Value} {t : TypeId} {i : TypeInfo} (hs : SR E S w) (hp : VR E p u) (hx : VR E x d) (hi : P.info? t = some i) (h : stS S p i.size x = some S') :
    ∃ w', (Instr.storeAt t u d).run P w = .ok () w' ∧ SR E S' w' ∧ Ext S.length E S w E S' w' ∧ S.length ≤ S'.length := by
  cases hp with
  | ptr ix off hr =>
    rename_i l st y
    simp only [stS] at h
    split at h
    · rename_i xs sz wr ho
      split at h
      · rename_i hst
        cases hv : xs[ix]? with
        | none => rw [hv] at h; cases h
        | some v =>
          rw [hv] at h
          simp only [Option.bind_some] at h
          cases hu : v.upd off i.size x with
          | none => rw [hu] at h; cases h
          | some v' =>
            rw [hu] at h; cases h
            obtain ⟨u1, u2, u3, u4, u5⟩ := upd_spec hu
            have hob := hs.obs l _ ho
            obtain ⟨h0, h1, h2⟩ := hob
            have hlt := (List.getElem?_eq_some_iff.1 hv).1
            have hwr : wr ≤ st := by omega
            obtain ⟨h3, h4, C, T, h5, h6, h7, h8⟩ := h2 st y hr hwr
            have hvs : v.cells.length = y.sz := by rw [h4]; exact h1 v (List.mem_of_getElem? hv)
            have hmul : (ix + 1) * y.sz ≤ xs.length * y.sz := Nat.mul_le_mul_right _ (by omega)
            have hmul' : (ix + 1) * y.sz = ix * y.sz + y.sz := by rw [Nat.add_mul]; omega
            have hfit : ix * y.sz + off + i.size ≤ C.size := by rw [hst] at h7; omega
            have hb : y.b < w.heap.size := (Array.getElem?_eq_some_iff.1 h5).1
            have hrun := run_storeVar (P := P) (o := ix * y.sz + off) hi h5 hx u2 u1 hfit
            have hc := hx.cells (flat_ne_top u2)
            refine ⟨_, by simp only [Instr.storeAt, Instr.sureAddr, Sem.run_bind, Sem.run_pure, Result.andThen]; exact hrun, ?_⟩
            have hlive : live S l := ⟨_, ho, by simp⟩
            have hsz : d.cells.toList.length = i.size := by simp; rw [← hc.1]; exact u1
            have hnew : OR E (World.put w y.b (over C (ix * y.sz + off) d.cells.toList) T) l (.arr (xs.set ix v') sz st) := by
              refine ⟨⟨h0.1, by simp; omega⟩, fun z hz => ?_, fun st' y' hy' hst' => ?_⟩
              · rcases List.mem_or_eq_of_mem_set hz with hz | rfl
                · exact h1 z hz
                · rw [u4]; exact h1 v (List.mem_of_getElem? hv)
              · obtain ⟨g3, g4, _⟩ := h2 st' y' hy' (by omega)
                have : st' = st := by omega
                subst this
                rw [hr] at hy'; cases hy'
                refine ⟨by simp; omega, h4, _, T, put_same hb, by rw [over_size]; exact h6, h7, fun k z hz hk j c hcj => ?_⟩
                rw [over_get _ _ _ _ (by rw [hsz]; exact hfit), hsz]
                have hzs : z.cells.length = y.sz := by
                  rw [h4]
                  rcases List.mem_or_eq_of_mem_set (List.mem_of_getElem? hz) with hz | rfl
                  · exact h1 z hz
                  · rw [u4]; exact h1 v (List.mem_of_getElem? hv)
                have hj : j < y.sz := by rw [← hzs]; exact (List.getElem?_eq_some_iff.1 hcj).1
                by_cases hkx : k = ix
                · subst hkx
                  rw [List.getElem?_set_self hlt] at hz; cases hz
                  rw [u5] at hcj
                  by_cases hin : off ≤ j ∧ j < off + i.size
                  · rw [if_pos hin] at hcj
                    rw [if_pos (by omega)]
                    obtain ⟨e, he, hre⟩ := hx.cells_ex (flat_ne_top u2) hcj
                    exact ⟨e, by rw [show k * y.sz + j - (k * y.sz + off) = j - off by omega]; simpa using he, hre⟩
                  · rw [if_neg hin] at hcj
                    rw [if_neg (by omega)]
                    exact h8 k v hv hk j c hcj
                · rw [List.getElem?_set_ne (Ne.symm hkx)] at hz
                  have hout : ¬ (ix * y.sz + off ≤ k * y.sz + j ∧ k * y.sz + j < ix * y.sz + off + i.size) := by
                    have hoff : off + i.size ≤ y.sz := by omega
                    rcases Nat.lt_or_ge k ix with hlt' | hge
                    · have : (k + 1) * y.sz ≤ ix * y.sz := Nat.mul_le_mul_right _ hlt'
                      rw [Nat.add_mul] at this; omega
                    · have : (ix + 1) * y.sz ≤ k * y.sz := Nat.mul_le_mul_right _ (by omega)
                      rw [Nat.add_mul] at this; omega
                  rw [if_neg hout]
                  exact h8 k z hz hk j c hcj
            have := hs.change (E' := E) (w' := World.put w y.b (over C (ix * y.sz + off) d.cells.toList) T) hlive rfl (En.le_refl E) (fun _ _ _ => rfl) (fun s z hz => .inl ⟨s, z, hz, rfl⟩) (by rw [put_size]; exact Nat.le_refl _)
              (fun b _ hno => put_other (fun e => hno _ _ hr e.symm)) rfl hnew
            exact ⟨this.1, this.2, by simp⟩
      · cases h
    · cases h
  | _ => simp [stS] at h
end Go.Proofs.YtbifpocccfkhhaaGreatDoor
/- Making objects; places; slices. -/
namespace Go.Proofs.YtbifpocccfkhhaaGreatDoor
open Go

/-- A step of memory that yields a value. -/
def Sim (P : Program) (E : En) (S : St) (w : World) (s : Sem Value) (r : V) (S' : St) : Prop :=
  ∃ d E' w', s.run P w = .ok d w' ∧ VR E' r d ∧ SR E' S' w' ∧ Ext S.length E S w E' S' w' ∧ S.length ≤ S'.length

theorem Sim.pure {P : Program} {E : En} {S : St} {w : World} {s : Sem Value} {r : V} {d : Value} (hs : SR E S w) (h : s.run P w = .ok d w) (hr : VR E r d) : Sim P E S w s r S :=
  ⟨d, E, w, h, hr, hs, Ext.refl _ _ _ _, Nat.le_refl _⟩

theorem run_newRow {P : Program} {w : World} {t : TypeId} {C : Array Value} : (newRow t C).run P w = .ok ⟨w.heap.size, 0, none⟩ { w with heap := w.heap.push (.cells C t (0, 0)) } := by
  simp [newRow, newObj, Sem.run, Result.andThen]

/-- A new variable that holds a value. -/
def boxS (S : St) (x : V) : Option (V × St) := if (x.cells.all V.flat) = true ∧ 0 < x.size then some (.ptr S.length 0 0 1, S ++ [.arr [x] x.size 1]) else none

theorem sim_box {E : En} {S S' : St} {P : Program} {w : World} {x r : V} {d : Value} {t : TypeId} (hs : SR E S w) (hx : VR E x d) (h : boxS S x = some (r, S')) : Sim P E S w (Instr.box t d) r S' := by
  unfold boxS at h
  split at h
  · rename_i hc
    obtain ⟨hf, h0⟩ := hc
    cases h
    obtain ⟨h1, h2⟩ := hx.cells (flat_ne_top hf)
    have hno : E.ρ S.length 1 = none := by
      cases hr : E.ρ S.length 1 with
      | none => rfl
      | some y => exact absurd (hs.dom _ _ _ hr) (by omega)
    obtain ⟨n1, n2⟩ := hs.new (o := .cells d.cells t (0, 0)) (ob := .arr [x] x.size 1) (st := 1) (N := d.cells.size) (sz := x.size) (by
      refine ⟨⟨h0, by simp⟩, fun v hv => ?_, fun st y hy hst => ?_⟩
      · simp at hv; subst hv; rfl
      · by_cases hs1 : st = 1
        · subst hs1
          rw [at_same] at hy; cases hy
          refine ⟨by simp, rfl, d.cells, t, push_new, rfl, by simp [V.size, h1], fun i v hv hi j c hc => ?_⟩
          have hi0 : i = 0 := by omega
          subst hi0
          simp at hv; subst hv
          obtain ⟨e, he, hr⟩ := hx.cells_ex (flat_ne_top hf) hc
          exact ⟨e, by simpa using he, hr.mono (at_le hno)⟩
        · exfalso
          simp only [En.at] at hy
          rw [if_neg (by simp; exact hs1)] at hy
          exact absurd (hs.dom _ _ _ hy) (by omega))
    refine ⟨.pointer (some ⟨w.heap.size, 0, none⟩), _, _, ?_, ?_, n1, n2, by simp⟩
    · simp only [Instr.box, newVar, Sem.run_bind, run_newRow, Result.andThen, Sem.run_pure]
    · have := VR.ptr (E := E.at S.length 1 ⟨w.heap.size, d.cells.size, x.size⟩) (l := S.length) (st := 1) 0 0 at_same
      simpa using this
  · cases h

theorem run_zeroValue {P : Program} {t : TypeId} {i : TypeInfo} {z : Value} {w : World} (h : P.info? t = some i) (hz : i.zero = some z) : (zeroValue t).run P w = .ok z w := by
  simp [zeroValue, Sem.run_bind, run_typeInfo h, Result.andThen, hz, Sem.run_pure]

theorem sim_alloc {E : En} {S S' : St} {P : Program} {w : World} {x r : V} {z o : Value} {t : TypeId} {i : TypeInfo} (hi : P.info? t = some i) (hz : i.zero = some z) (hs : SR E S w) (hx : VR E x z) (h : boxS S x = some (r, S')) :
    Sim P E S w (Instr.alloc t true o) r S' := by
  obtain ⟨d, E', w', h1, h2⟩ := sim_box (P := P) (t := t) hs hx h
  refine ⟨d, E', w', ?_, h2⟩
  rw [← h1]
  simp [Instr.alloc, Instr.box, Sem.run_bind, run_zeroValue hi hz, Result.andThen]

/-- The place of a field, of an array's element. -/
def faV (p : V) (off : Nat) : Option V :=
  match p with
  | .ptr l i o st => some (.ptr l i (o + off) st)
  | .iptr v o => some (.iptr v (o + off))
  | .glob g o => some (.glob g (o + off))
  | _ => none

theorem VR.fa {E : En} {p r : V} {u : Value} {off : Nat} (hp : VR E p u) (h : faV p off = some r) : ∃ b o, u = .pointer (some ⟨b, o, none⟩) ∧ VR E r (.pointer (some ⟨b, o + off, none⟩)) := by
  cases hp with
  | glob g o => cases h; exact ⟨_, _, rfl, .glob g (o + off)⟩
  | ptr i o hr =>
    cases h
    exact ⟨_, _, rfl, by have := VR.ptr i (o + off) hr; rw [← Nat.add_assoc] at this; exact this⟩
  | iptr o hI hv =>
    cases h
    exact ⟨_, _, rfl, by have := VR.iptr (o + off) hI hv; rw [← Nat.add_assoc] at this; exact this⟩
  | _ => simp [faV] at h

def fieldOff (P : Program) (t : TypeId) (f : Nat) : Option Nat :=
  match P.underlying t with
  | some (.struct fs) => match fs[f]? with
    | some x => match P.info? x.type with
      | some i => if i.size = 0 then none else some x.offset
      | none => none
    | none => none
  | _ => none

theorem sim_fa {E : En} {S : St} {P : Program} {w : World} {p r : V} {u : Value} {t : TypeId} {f off : Nat} (hs : SR E S w) (hp : VR E p u) (ho : fieldOff P t f = some off) (h : faV p off = some r) : Sim P E S w (Instr.fieldAt t u f) r S := by
  obtain ⟨b, o, rfl, hr⟩ := hp.fa h
  unfold fieldOff at ho
  split at ho <;> try cases ho
  rename_i fs hu
  split at ho <;> try cases ho
  rename_i x hx
  split at ho <;> try cases ho
  rename_i i hi
  split at ho <;> try cases ho
  rename_i hz
  refine Sim.pure hs ?_ hr
  simp only [Instr.fieldAt, Sem.run_bind, run_underlying' hu, Result.andThen, hx, Instr.sureAddr, Sem.run_pure, fieldPlace, run_sizeOf hi, hz, if_false, add_none]

/-- The place of an element. -/
def iaS (S : St) (sz : Nat) (p : V) (ix : Int) : Option V :=
  match p with
  | .sl _ xs => if 0 ≤ ix then match xs[ix.toNat]? with
      | some v => if v.size = sz then some (.iptr v 0) else none
      | none => none
    else none
  | .arr l off len st => match S[l]? with
    | some (.arr _ s wr) => if wr ≤ st ∧ s = sz ∧ 0 ≤ ix ∧ ix < len then some (.ptr l (off + ix.toNat) 0 st) else none
    | _ => none
  | _ => none

def elemSize (P : Program) (t : TypeId) : Option Nat :=
  match P.underlying t with
  | some (.slice e) => (P.info? e).map fun i => i.size
  | _ => none

theorem sim_ia {E : En} {S : St} {P : Program} {w : World} {p r : V} {u : Value} {t : TypeId} {k : IntKind} {sz : Nat} {ix : Int} (hs : SR E S w) (hp : VR E p u) (ho : elemSize P t = some sz) (h : iaS S sz p ix = some r) :
    Sim P E S w (Instr.indexAt t u (.int k ix)) r S := by
  unfold elemSize at ho
  split at ho <;> try cases ho
  rename_i e hu
  cases hi : P.info? e with
  | none => rw [hi] at ho; cases ho
  | some i =>
    rw [hi] at ho; cases ho
    have run : ∀ (b o len cap : Nat), 0 ≤ ix → ix < len → (Instr.indexAt t (.slice (some ⟨b, o, none⟩) len cap) (.int k ix)).run P w = .ok (.pointer (some ⟨b, o + ix.toNat * i.size, none⟩)) w := by
      intro b o len cap h0 h1
      simp only [Instr.indexAt, asIntOf, Sem.run_bind, Sem.run_pure, Result.andThen, run_underlying' hu]
      by_cases hl : len ≤ 1
      · simp [run_underlying' hu, Result.andThen, h0, h1, run_sizeOf hi, add_none]
      · simp [Result.andThen, h0, h1, run_sizeOf hi, add_none]
    cases hp with
    | slnil x => simp [iaS] at h
    | slz x a => simp [iaS] at h
    | sl hc hx hss hI hv =>
      rename_i x xs b o cap sz'
      simp only [iaS] at h
      split at h <;> try cases h
      rename_i h0
      split at h <;> try cases h
      rename_i v hxs
      split at h <;> try cases h
      rename_i hsz
      have hlt := (List.getElem?_eq_some_iff.1 hxs).1
      have he := hss v (List.mem_of_getElem? hxs)
      have hsz' : i.size = sz' := by rw [← hsz, V.size, he]
      refine Sim.pure hs (run b o _ cap h0 (by omega)) ?_
      rw [hsz']
      have := VR.iptr (E := E) (v := v) (b := b) (o := o + ix.toNat * sz') 0 (fun j hj => hI ix.toNat j hlt (by omega)) (fun j c' c hc hi' => hv ix.toNat v j c' c hxs hc hi')
      simpa using this
    | arr hr hN hc =>
      rename_i l off len cap st x
      simp only [iaS] at h
      split at h <;> try cases h
      rename_i ys s wr hob
      split at h <;> try cases h
      rename_i hc'
      obtain ⟨c1, c2, c3, c4⟩ := hc'
      have hsz := ((hs.obs l _ hob).2.2 st x hr c1).2.1
      refine Sim.pure hs (run _ _ _ cap c3 c4) ?_
      have := VR.ptr (off + ix.toNat) 0 hr
      rw [← c2, ← hsz, ← Nat.add_mul]
      simpa using this
    | _ => simp [iaS] at h
end Go.Proofs.YtbifpocccfkhhaaGreatDoor
/- Appending. -/
namespace Go.Proofs.YtbifpocccfkhhaaGreatDoor
open Go

/-- The elements that a slice has. -/
def elems (S : St) (v : V) : Option (List V) :=
  match v with
  | .sl _ xs => some xs
  | .arr l off len st => match S[l]? with
    | some (.arr xs _ wr) => if wr ≤ st ∧ off + len ≤ st then some ((xs.drop off).take len) else none
    | _ => none
  | _ => none

def flats (xs : List V) : List V := xs.flatMap V.cells

theorem flats_get {xs : List V} {sz : Nat} (hs : ∀ v, v ∈ xs → v.cells.length = sz) : ∀ {i j : Nat} {v : V}, xs[i]? = some v → j < sz → (flats xs)[i * sz + j]? = v.cells[j]? := by
  induction xs with
  | nil => intro i j v h; simp at h
  | cons y ys ih =>
    intro i j v h hj
    have hy : y.cells.length = sz := hs y (by simp)
    simp only [flats, List.flatMap_cons]
    cases i with
    | zero =>
      simp at h; subst h
      rw [Nat.zero_mul, Nat.zero_add, List.getElem?_append_left (by omega)]
    | succ i =>
      simp at h
      rw [Nat.succ_mul, List.getElem?_append_right (by omega), hy, show i * sz + sz + j - sz = i * sz + j by omega]
      exact ih (fun v hv => hs v (by simp [hv])) h hj
theorem flats_length {xs : List V} {sz : Nat} (hs : ∀ v, v ∈ xs → v.cells.length = sz) : (flats xs).length = xs.length * sz := by
  induction xs with
  | nil => simp [flats]
  | cons y ys ih =>
    have hy : y.cells.length = sz := hs y (by simp)
    have := ih (fun v hv => hs v (by simp [hv]))
    simp only [flats, List.flatMap_cons, List.length_append, List.length_cons] at *
    rw [this, hy, Nat.succ_mul, Nat.add_comm]
theorem flats_split {xs : List V} {sz : Nat} (hs : ∀ v, v ∈ xs → v.cells.length = sz) (h0 : 0 < sz) {k : Nat} {c : V} (h : (flats xs)[k]? = some c) : ∃ v, xs[k / sz]? = some v ∧ v.cells[k % sz]? = some c := by
  have hk := (List.getElem?_eq_some_iff.1 h).1
  rw [flats_length hs] at hk
  have hi : k / sz < xs.length := Nat.div_lt_of_lt_mul (by rw [Nat.mul_comm]; exact hk)
  refine ⟨xs[k / sz], by simp [hi], ?_⟩
  rw [← flats_get hs (i := k / sz) (j := k % sz) (by simp [hi]) (Nat.mod_lt _ h0), show k / sz * sz + k % sz = k by rw [Nat.mul_comm]; exact Nat.div_add_mod k sz]
  exact h

/-- What 'firstCells' reads of a slice. -/
theorem run_firstCells {E : En} {S : St} {P : Program} {w : World} {v : V} {u : Value} {xs : List V} {sz : Nat} (hs : SR E S w) (hv : VR E v u) (he : elems S v = some xs) (hsz : ∀ x, x ∈ xs → x.size = sz) (h0 : 0 < sz) :
    ∃ (a : Option Addr) (cap : Nat) (us : Array Value), u = .slice a xs.length cap ∧ (Builtin.firstCells sz xs.length u).run P w = .ok us w ∧ VR E (.agg (flats xs)) (.agg us) := by
  have hlen := flats_length (xs := xs) (sz := sz) hsz
  cases hv with
  | slnil x =>
    cases he
    exact ⟨none, 0, #[], rfl, by simp [Builtin.firstCells], .agg rfl (fun i v u h _ => by simp [flats] at h)⟩
  | slz x a =>
    cases he
    exact ⟨some a, 0, #[], rfl, by simp [Builtin.firstCells, loadCells, loadCellsFrom], .agg rfl (fun i v u h _ => by simp [flats] at h)⟩
  | sl hc hx hss hI hvv =>
    rename_i x b o cap sz'
    cases he
    by_cases hnil : xs = []
    · subst hnil
      obtain ⟨us, h1, h2⟩ := run_agg (E := E) (P := P) (w := w) (b := b) (o := o) (n := 0) (cs := []) rfl (fun j c hc => by simp at hc)
      exact ⟨_, _, us, rfl, by simpa [Builtin.firstCells] using h1, h2⟩
    · have hz : sz' = sz := by
        obtain ⟨y, ys, rfl⟩ := List.exists_cons_of_ne_nil hnil
        rw [← hss y (by simp)]; exact hsz y (by simp)
      subst hz
      obtain ⟨us, h1, h2⟩ := run_agg (E := E) (P := P) (w := w) (b := b) (o := o) (n := xs.length * sz') (cs := flats xs) hlen (fun k c hc => by
        obtain ⟨v, hv1, hv2⟩ := flats_split hsz h0 hc
        have hi := (List.getElem?_eq_some_iff.1 hv1).1
        have hj := Nat.mod_lt k h0
        obtain ⟨d, hd⟩ := Option.isSome_iff_exists.1 (hI (k / sz') (k % sz') hi hj)
        have e : o + k / sz' * sz' + k % sz' = o + k := by rw [Nat.add_assoc]; congr 1; rw [Nat.mul_comm]; exact Nat.div_add_mod k sz'
        refine ⟨d, ?_, hvv _ v _ c d hv1 hv2 hd⟩
        rw [← e]; exact hs.I _ _ _ hd)
      exact ⟨_, _, us, rfl, by simpa [Builtin.firstCells] using h1, h2⟩
  | arr hr hN hc =>
    rename_i l off len cap st x
    simp only [elems] at he
    split at he <;> try cases he
    rename_i ys s wr hob
    split at he <;> try cases he
    rename_i hc'
    obtain ⟨c1, c2⟩ := hc'
    have hob' := hs.obs l _ hob
    obtain ⟨g1, g2, C, T, g3, g4, g5, g6⟩ := hob'.2.2 st x hr c1
    have hl : ((ys.drop off).take len).length = len := by simp; omega
    rw [hl]
    by_cases hnil : len = 0
    · subst hnil
      obtain ⟨us, h1, h2⟩ := run_agg (E := E) (P := P) (w := w) (b := x.b) (o := off * x.sz) (n := 0) (cs := []) rfl (fun j c hc => by simp at hc)
      refine ⟨_, _, us, rfl, by simpa [Builtin.firstCells] using h1, ?_⟩
      simpa [flats] using h2
    · have hz : x.sz = sz := by
        rw [g2]
        have hm : ys[off]'(by omega) ∈ (ys.drop off).take len := by
          have : ((ys.drop off).take len)[0]? = some (ys[off]'(by omega)) := by
            rw [List.getElem?_take_of_lt (by omega), List.getElem?_drop]; simp
          exact List.mem_of_getElem? this
        rw [← hsz _ hm]
        exact (hob'.2.1 _ (List.getElem_mem _)).symm
      obtain ⟨us, h1, h2⟩ := run_agg (E := E) (P := P) (w := w) (b := x.b) (o := off * x.sz) (n := len * sz) (cs := flats ((ys.drop off).take len)) (by rw [hlen, hl]) (fun k c hc => by
        obtain ⟨v, hv1, hv2⟩ := flats_split hsz h0 hc
        have hi : k / sz < len := by have := (List.getElem?_eq_some_iff.1 hv1).1; omega
        rw [List.getElem?_take_of_lt hi, List.getElem?_drop] at hv1
        obtain ⟨d, hd, hr'⟩ := g6 (off + k / sz) v hv1 (by omega) (k % sz) c hv2
        refine ⟨d, ?_, hr'⟩
        rw [cell?_of g3, ← hd]
        congr 1
        rw [hz, Nat.add_mul, Nat.add_assoc]; congr 1
        rw [Nat.mul_comm (k / sz)]; exact (Nat.div_add_mod k sz).symm)
      exact ⟨_, _, us, rfl, by simpa [Builtin.firstCells] using h1, h2⟩
  | _ => simp [elems] at he
end Go.Proofs.YtbifpocccfkhhaaGreatDoor
/- Appending: the two ways. -/
namespace Go.Proofs.YtbifpocccfkhhaaGreatDoor
open Go

theorem growBy_le : ∀ (r need c : Nat), c < 2 * need → 256 ≤ c → Builtin.growBy need r c < 2 * need
  | 0, need, c, h, _ => by simpa [Builtin.growBy] using h
  | r + 1, need, c, h, hc => by
    simp only [Builtin.growBy]
    split
    · exact h
    · exact growBy_le r need _ (by omega) (by omega)
theorem nextcap_le {need cap : Nat} (h : cap < need) : Builtin.nextslicecap need cap ≤ 2 * need := by
  unfold Builtin.nextslicecap
  split
  · omega
  · split
    · omega
    · exact Nat.le_of_lt (growBy_le _ _ _ (by omega) (by omega))

structure AppTy (P : Program) (ts : Array TypeId) (sz bytes : Nat) : Prop where
  h : ∃ sT xT e e' i z, ts[0]? = some sT ∧ ts[1]? = some xT ∧ P.underlying sT = some (.slice e) ∧ P.underlying xT = some (.slice e') ∧ P.info? e = some i ∧ i.size = sz ∧ i.bytes = bytes ∧ i.zero = some z ∧ z.cells.size = sz ∧ 0 < sz ∧ 0 < bytes

def appTy (P : Program) (ts : Array TypeId) : Option (Nat × Nat) :=
  match ts[0]?, ts[1]? with
  | some sT, some xT => match P.underlying sT, P.underlying xT with
    | some (.slice e), some (.slice _) => match P.info? e with
      | some i => match i.zero with
        | some z => if z.cells.size = i.size ∧ 0 < i.size ∧ 0 < i.bytes then some (i.size, i.bytes) else none
        | none => none
      | none => none
    | _, _ => none
  | _, _ => none

theorem appTy_spec {P : Program} {ts : Array TypeId} {sz bytes : Nat} (h : appTy P ts = some (sz, bytes)) : AppTy P ts sz bytes := by
  unfold appTy at h
  split at h <;> try cases h
  rename_i sT xT h1 h2
  split at h <;> try cases h
  rename_i e e' h3 h4
  split at h <;> try cases h
  rename_i i h5
  split at h <;> try cases h
  rename_i z h6
  split at h <;> try cases h
  rename_i hc
  exact ⟨sT, xT, e, e', i, z, h1, h2, h3, h4, h5, rfl, rfl, h6, hc.1, hc.2.1, hc.2.2⟩

theorem zeroCells_size (z : Array Value) (n : Nat) : (Builtin.zeroCells z n).size = n * z.size := by simp [Builtin.zeroCells]

theorem run_append_none {P : Program} {ts : Array TypeId} {T : TypeId} {sz bytes len cap : Nat} {w : World} {base a : Option Addr} {c : Nat} (ht : AppTy P ts sz bytes) (hcap : len ≤ cap) :
    (Builtin.append_ ts T #[.slice base len cap, .slice a 0 c]).run P w = .ok (.slice base len cap) w := by
  obtain ⟨sT, xT, e, e', i, z, h1, h2, h3, h4, h5, rfl, rfl, h6, h7, h8, h9⟩ := ht.h
  have hf : (Builtin.firstCells i.size 0 (.slice a 0 c)).run P w = .ok #[] w := by
    cases a with
    | none => simp [Builtin.firstCells]
    | some b => simp [Builtin.firstCells, loadCells, loadCellsFrom]
  simp only [Builtin.append_, h1, h2, Builtin.lenOf]
  simp only [List.getElem?_toArray, List.getElem?_cons_zero, List.getElem?_cons_succ, Sem.run_bind, run_underlying' h3, run_underlying' h4, run_sizeOf h5, Result.andThen, Sem.run_pure, hf, Nat.add_zero, hcap, if_true, Bool.false_eq_true, if_false, Bool.not_false]
  cases base <;> simp [storeCells, Result.andThen]

theorem run_append_in {P : Program} {ts : Array TypeId} {T t : TypeId} {sz bytes len cap n c b o : Nat} {w : World} {a : Option Addr} {new C : Array Value} (ht : AppTy P ts sz bytes) (hcap : len + n ≤ cap)
    (hn : (Builtin.firstCells sz n (.slice a n c)).run P w = .ok new w) (hb : w.heap[b]? = some (.cells C t (0, 0))) (hfit : o + len * sz + new.size ≤ C.size) (hf : ∀ u, u ∈ new.toList → Value.flat u = true) :
    (Builtin.append_ ts T #[.slice (some ⟨b, o, none⟩) len cap, .slice a n c]).run P w = .ok (.slice (some ⟨b, o, none⟩) (len + n) cap) (World.put w b (over C (o + len * sz) new.toList) t) := by
  obtain ⟨sT, xT, e, e', i, z, h1, h2, h3, h4, h5, rfl, rfl, h6, h7, h8, h9⟩ := ht.h
  have hs := run_storeCells (P := P) (b := b) (o := o + len * i.size) new.toList 0 w C hb (by simpa using hfit) hf
  simp only [Builtin.append_, h1, h2, List.getElem?_toArray, List.getElem?_cons_zero, List.getElem?_cons_succ, Sem.run_bind, run_underlying' h3, run_underlying' h4, run_sizeOf h5, Result.andThen, Sem.run_pure, Builtin.lenOf, hn, hcap, if_true, Bool.false_eq_true, if_false, Bool.not_false, add_none, hs, Nat.add_zero]

theorem run_append_move {P : Program} {ts : Array TypeId} {T : TypeId} {sz bytes len cap n c : Nat} {w : World} {base a : Option Addr} {old new : Array Value} (ht : AppTy P ts sz bytes) (hcap : cap < len + n) (hroom : (len + n) * bytes ≤ 2 ^ 47)
    (ho : (Builtin.firstCells sz len (.slice base len cap)).run P { w with drawn := w.drawn + 1 } = .ok old { w with drawn := w.drawn + 1 })
    (hn : (Builtin.firstCells sz n (.slice a n c)).run P { w with drawn := w.drawn + 1 } = .ok new { w with drawn := w.drawn + 1 }) :
    ∃ (newCap : Nat) (rest : Array Value) (t : TypeId), len + n ≤ newCap ∧ rest.size = (newCap - (len + n)) * sz ∧
      (Builtin.append_ ts T #[.slice base len cap, .slice a n c]).run P w = .ok (.slice (some ⟨w.heap.size, 0, none⟩) (len + n) newCap) { w with drawn := w.drawn + 1, heap := w.heap.push (.cells (old ++ new ++ rest) t (0, 0)) } := by
  obtain ⟨sT, xT, e, e', i, z, h1, h2, h3, h4, h5, rfl, rfl, h6, h7, h8, h9⟩ := ht.h
  have hnc := nextcap_le hcap
  have hle : ¬ Builtin.nextslicecap (len + n) cap * i.bytes > 2 ^ 48 := by
    have : Builtin.nextslicecap (len + n) cap * i.bytes ≤ 2 * (len + n) * i.bytes := Nat.mul_le_mul_right _ hnc
    rw [Nat.mul_assoc] at this
    omega
  have hnot : ¬ (len + n ≤ cap) := by omega
  let q := Question.appendCap (len + n) cap e
  let newCap := q.cut (w.tape w.drawn q)
  have hch : (choose (.appendCap (len + n) cap e)).run P w = .ok newCap { w with drawn := w.drawn + 1 } := by
    simp [choose, Sem.run, Question.forced, newCap, q]
  have hnew : len + n ≤ newCap := by
    simp only [newCap, q, Question.cut]; omega
  refine ⟨newCap, Builtin.zeroCells z.cells (newCap - (len + n)), e, hnew, by rw [zeroCells_size, h7], ?_⟩
  have hask : ∀ (k : Nat) (v : World), (askRoom k).run P v = .ok () v := fun k v => by
    unfold askRoom; split <;> simp [mark, Sem.run, Sem.run_pure]
  have hbig : ¬ ((((len + n : Nat) : Int) > IntKind.i64.max) ∧ (False ∨ i.bytes = 0)) := by
    rintro ⟨_, h | h⟩
    · exact h
    · omega
  simp only [Builtin.append_, h1, h2, List.getElem?_toArray, List.getElem?_cons_zero, List.getElem?_cons_succ, Sem.run_bind, run_underlying' h3, run_underlying' h4, run_sizeOf h5, run_typeInfo h5, Result.andThen, Sem.run_pure, Builtin.lenOf, hnot, if_false, Bool.false_eq_true, Bool.not_false, if_true, hle, hch, hask, ho, hn, run_zeroValue h5 h6, run_newRow]
  rw [if_neg hbig]
  simp only [Sem.run_bind, run_typeInfo h5, Result.andThen, hle, if_false, Sem.run_pure, hch, hask, ho, hn, run_zeroValue h5 h6, run_newRow]
end Go.Proofs.YtbifpocccfkhhaaGreatDoor
