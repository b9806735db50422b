/- Maps whose keys are strings or integers. -/
import Derived.Test.YtbifpocccfkhhaaGreatDoorLab
import Derived.MapFrom
import Derived.Laws.MakeOwn
import Derived.Laws.BytesString
import Derived.Maps.RangeRun
namespace Go.Proofs.YtbifpocccfkhhaaGreatDoor
open Go

inductive KeyKd where
  | str
  | int (k : IntKind)
  deriving DecidableEq, Inhabited

def keyEq : KeyKd → V → V → Option Bool
  | .str, .str a, .str b => some (a.data.toList == b.data.toList)
  | .int k, .int j a, .int j' b => if j = k ∧ j' = k then some (a == b) else none
  | _, _, _ => none

def mapFind (kd : KeyKd) (k : V) : List (V × V) → Nat → Option (Option (Nat × V))
  | [], _ => some none
  | (k', v) :: es, i => match keyEq kd k k' with
    | some true => some (some (i, v))
    | some false => mapFind kd k es (i + 1)
    | none => none

def keyKd (P : Program) (t : TypeId) : Option KeyKd :=
  match P.underlying t with
  | some .string => some .str
  | some (.int k) => some (.int k)
  | _ => none

def keyIs (kd : KeyKd) : V → Bool
  | .str _ => kd == .str
  | .int k _ => kd == .int k
  | _ => false

def EntriesR (E : En) (es : List (V × V)) (l : List MapEntry) : Prop := es.length = l.length ∧ ∀ (i : Nat) (k v : V) (e : MapEntry), es[i]? = some (k, v) → l[i]? = some e → VR E k e.key ∧ VR E v e.val

theorem keyEq_sim {E : En} {P : Program} {kd : KeyKd} {t : TypeId} {d : TypeDesc} (ht : keyKd P t = some kd) (hd : P.underlying t = some d) {x y : V} {u v : Value} {b : Bool} (hx : VR E x u) (hy : VR E y v) (h : keyEq kd x y = some b) :
    Instr.sameNow d u v = some b ∧ MapKept.IsKey d u := by
  unfold keyKd at ht
  rw [hd] at ht
  split at ht <;> simp only [Option.some.injEq, reduceCtorEq] at ht <;> rename_i he <;> cases he <;> subst ht
  · cases hx <;> cases hy <;> simp only [keyEq, reduceCtorEq, Option.some.injEq] at h
    rename_i a b'
    refine ⟨?_, trivial⟩
    simp only [Instr.sameNow, Option.some.injEq]
    rw [← h, Bool.eq_iff_iff, MapKept.bytes_beq]
    obtain ⟨x⟩ := a
    obtain ⟨y⟩ := b'
    simp
  · cases hx <;> cases hy <;> simp only [keyEq, reduceCtorEq] at h
    split at h <;> cases h
    rename_i hk
    obtain ⟨rfl, rfl⟩ := hk
    exact ⟨by simp [Instr.sameNow], rfl⟩

theorem keyIs_sim {E : En} {P : Program} {kd : KeyKd} {t : TypeId} {d : TypeDesc} (ht : keyKd P t = some kd) (hd : P.underlying t = some d) {x : V} {u : Value} (hx : VR E x u) (h : keyIs kd x = true) : MapKept.IsKey d u := by
  unfold keyKd at ht
  rw [hd] at ht
  split at ht <;> simp only [Option.some.injEq, reduceCtorEq] at ht <;> rename_i he <;> cases he <;> subst ht
  · cases hx <;> simp [keyIs] at h
    trivial
  · cases hx <;> simp [keyIs] at h
    exact h.symm

theorem mapFind_sim {E : En} {P : Program} {kd : KeyKd} {t : TypeId} {d : TypeDesc} (ht : keyKd P t = some kd) (hd : P.underlying t = some d) {x : V} {u : Value} (hx : VR E x u) : ∀ (es : List (V × V)) (l : List MapEntry) (i : Nat) (r : Option (Nat × V)), EntriesR E es l → mapFind kd x es i = some r →
    (r = none ∧ Instr.findNow d u l i = some none) ∨ ∃ j v e, r = some (i + j, v) ∧ Instr.findNow d u l i = some (some (i + j, e.val)) ∧ VR E v e.val ∧ l[j]? = some e ∧ VR E x e.key ∧ j < es.length ∧ Instr.sameNow d u e.key = some true
  | [], l, i, r, hr, h => by
    have : l = [] := List.eq_nil_of_length_eq_zero (by have := hr.1; simp at this; omega)
    subst this
    simp only [mapFind, Option.some.injEq] at h
    exact .inl ⟨h.symm, rfl⟩
  | (k, v) :: es, l, i, r, hr, h => by
    match l, hr with
    | [], hr => exact absurd hr.1 (by simp)
    | e :: l, hr =>
      obtain ⟨h1, h2⟩ := hr.2 0 k v e rfl rfl
      simp only [mapFind] at h
      split at h
      · rename_i hk
        obtain ⟨s1, s2⟩ := keyEq_sim ht hd hx h1 hk
        cases h
        refine .inr ⟨0, v, e, rfl, by simp [Instr.findNow, s1], h2, rfl, ?_, by simp, s1⟩
        -- the key is the same
        unfold keyKd at ht
        rw [hd] at ht
        split at ht <;> simp only [Option.some.injEq, reduceCtorEq] at ht <;> rename_i he <;> cases he <;> subst ht
        · cases hx <;> generalize hek : e.key = ek at * <;> cases h1 <;> simp only [keyEq, reduceCtorEq, Option.some.injEq] at hk
          rename_i a b
          obtain ⟨x⟩ := a
          obtain ⟨y⟩ := b
          simp at hk
          subst hk
          exact .str _
        · cases hx <;> generalize hek : e.key = ek at * <;> cases h1 <;> simp only [keyEq, reduceCtorEq] at hk
          split at hk
          · rename_i hkk
            obtain ⟨rfl, rfl⟩ := hkk
            simp at hk
            subst hk
            exact .int _ _
          · cases hk
      · rename_i hk
        obtain ⟨s1, s2⟩ := keyEq_sim ht hd hx h1 hk
        have hr' : EntriesR E es l := ⟨by have := hr.1; simp at this; exact this, fun j k' v' e' hj hj' => hr.2 (j + 1) k' v' e' (by simpa using hj) (by simpa using hj')⟩
        rcases mapFind_sim ht hd hx es l (i + 1) r hr' h with ⟨g1, g2⟩ | ⟨j, v', e', g1, g2, g3, g4, g5, g6, g7⟩
        · exact .inl ⟨g1, by simp [Instr.findNow, s1, g2]⟩
        · refine .inr ⟨j + 1, v', e', by rw [g1]; simp; omega, by simp only [Instr.findNow, s1, g2]; simp; omega, g3, by simpa using g4, g5, by simp; omega, g7⟩
      · cases h

/-- What a map holds. -/
def mapOf (S : St) : V → Option (List (V × V))
  | .nilmap => some []
  | .map l => match S[l]? with
    | some (.map es _ _) => some es
    | _ => none
  | _ => none

def lkpV (S : St) (kd : KeyKd) (z : V) (ok : Bool) (x k : V) : Option V :=
  if keyIs kd k = true then match mapOf S x with
    | some es => match mapFind kd k es 0 with
      | some (some (_, v)) => some (if ok then .tup [v, .bool true] else v)
      | some none => some (if ok then .tup [z, .bool false] else z)
      | none => none
    | none => none
  else none

def mapTy (P : Program) (t : TypeId) : Option (KeyKd × TypeId × TypeId) :=
  match P.underlying t with
  | some (.map k e) => (keyKd P k).map fun kd => (kd, k, e)
  | _ => none

theorem sim_lookup {E : En} {S : St} {P : Program} {w : World} {x k r z : V} {u ku : Value} {t kt et : TypeId} {kd : KeyKd} {ok : Bool} {i : TypeInfo} {zv : Value} (hs : SR E S w) (ht : mapTy P t = some (kd, kt, et)) (hi : P.info? et = some i) (hz : i.zero = some zv) (hzz : VR E z zv) (hx : VR E x u) (hk : VR E k ku) (h : lkpV S kd z ok x k = some r) :
    Sim P E S w (Instr.lookup t u ku ok) r S := by
  unfold mapTy at ht
  split at ht <;> try cases ht
  rename_i k' e' hu
  cases hkk : keyKd P k' with
  | none => rw [hkk] at ht; cases ht
  | some kd' =>
    rw [hkk] at ht
    simp only [Option.map_some, Option.some.injEq, Prod.mk.injEq] at ht
    obtain ⟨rfl, rfl, rfl⟩ := ht
    have hd : ∃ d, P.underlying k' = some d := by
      unfold keyKd at hkk
      cases hd : P.underlying k' with
      | none => rw [hd] at hkk; cases hkk
      | some d => exact ⟨d, rfl⟩
    obtain ⟨d, hd⟩ := hd
    unfold lkpV at h
    split at h
    case isFalse => cases h
    rename_i hki
    have hkey := keyIs_sim hkk hd hk hki
    split at h <;> try cases h
    rename_i es hes
    -- the entries
    have hent : ∃ l : Array MapEntry, EntriesR E es l.toList ∧ ((u = .map none ∧ l = #[]) ∨ ∃ b clock, u = .map (some b) ∧ w.heap[b]? = some (.map l clock)) := by
      cases hx <;> simp only [mapOf, reduceCtorEq, Option.some.injEq] at hes
      · subst hes
        exact ⟨#[], ⟨rfl, fun i k v e h => by simp at h⟩, .inl ⟨rfl, rfl⟩⟩
      · rename_i l y hy
        split at hes <;> cases hes
        rename_i hl
        obtain ⟨y', entries, h1, h2, h3, _, h4⟩ := hs.obs l _ hl
        rw [hy] at h1; cases h1
        exact ⟨entries, ⟨by simpa using h3, fun i k v e hk he => h4 i k v e hk (by simpa using he)⟩, .inr ⟨_, _, rfl, h2⟩⟩
    obtain ⟨l, hl, hform⟩ := hent
    have hck : (Instr.checkKey l.isEmpty 10000 k' ku).run P w = .ok () w := MapKept.run_checkKey hd hkey _ _
    split at h <;> try cases h
    · rename_i j v hf
      rcases mapFind_sim hkk hd hk es l.toList 0 _ hl hf with ⟨g1, _⟩ | ⟨j', v', e, g1, g2, g3, _⟩
      · cases g1
      · simp only [Option.some.injEq, Prod.mk.injEq] at g1
        obtain ⟨rfl, rfl⟩ := g1
        have hfk := MapKept.run_findKey (P := P) (w := w) hd g2
        refine ⟨if ok then .tuple #[e.val, .bool true] else e.val, E, w, ?_, ?_, hs, Ext.refl _ _ _ _, Nat.le_refl _⟩
        · rcases hform with ⟨rfl, rfl⟩ | ⟨b, clock, rfl, hb⟩
          · simp only [Instr.lookup, Sem.run_bind, run_underlying' hu, Result.andThen, Sem.run_pure, hck, hfk]
          · simp only [Instr.lookup, Sem.run_bind, run_underlying' hu, Result.andThen, MapKept.run_getObj_map hb, Sem.run_pure, hck, hfk]
        · cases ok
          · exact g3
          · refine .tup rfl fun i v u hv hu => ?_
            match i with
            | 0 => simp at hv hu; subst hv; subst hu; exact g3
            | 1 => simp at hv hu; subst hv; subst hu; exact .bool _
            | i + 2 => simp at hv
    · rename_i hf
      rcases mapFind_sim hkk hd hk es l.toList 0 _ hl hf with ⟨_, g2⟩ | ⟨j', v', e, g1, _⟩
      · have hfk := MapKept.run_findKey (P := P) (w := w) hd g2
        refine ⟨if ok then .tuple #[zv, .bool false] else zv, E, w, ?_, ?_, hs, Ext.refl _ _ _ _, Nat.le_refl _⟩
        · rcases hform with ⟨rfl, rfl⟩ | ⟨b, clock, rfl, hb⟩
          · simp only [Instr.lookup, Sem.run_bind, run_underlying' hu, Result.andThen, Sem.run_pure, hck, hfk, run_zeroValue hi hz]
          · simp only [Instr.lookup, Sem.run_bind, run_underlying' hu, Result.andThen, MapKept.run_getObj_map hb, Sem.run_pure, hck, hfk, run_zeroValue hi hz]
        · cases ok
          · exact hzz
          · refine .tup rfl fun i v u hv hu => ?_
            match i with
            | 0 => simp at hv hu; subst hv; subst hu; exact hzz
            | 1 => simp at hv hu; subst hv; subst hu; exact .bool _
            | i + 2 => simp at hv
      · cases g1

/-- A new map. -/
theorem sim_makeMap {E : En} {S : St} {P : Program} {w : World} {t : TypeId} (hs : SR E S w) : Sim P E S w (Instr.makeMap t none) (.map S.length) (S ++ [.map [] [] 0]) := by
  have hno : ∀ st, E.ρ S.length st = none := fun st => by
    cases hr : E.ρ S.length st with
    | none => rfl
    | some x => exact absurd (hs.dom _ _ _ hr) (by omega)
  obtain ⟨n1, n2⟩ := hs.new (o := .map #[] 0) (ob := .map [] [] 0) (st := 0) (N := 0) (sz := 0) ⟨⟨w.heap.size, 0, 0⟩, #[], at_same, push_new, rfl, rfl, fun i k v e h => by simp at h⟩
  refine ⟨.map (some w.heap.size), _, _, ?_, ?_, n1, n2, by simp⟩
  · simp [Instr.makeMap, newObj, Sem.run, Result.andThen]
  · exact VR.map (x := ⟨w.heap.size, 0, 0⟩) at_same

/-- An entry is laid. -/
def mupS (S : St) (kd : KeyKd) (x k v : V) : Option St :=
  if keyIs kd k = true then match x with
    | .map l => match S[l]? with
      | some (.map es bs ck) => match mapFind kd k es 0 with
        | some (some (i, _)) => some (S.set l (.map (es.set i (k, v)) bs ck))
        | some none => some (S.set l (.map (es ++ [(k, v)]) (bs ++ [ck]) (ck + 1)))
        | none => none
      | _ => none
    | _ => none
  else none

theorem sim_mapUpdate {E : En} {S S' : St} {P : Program} {w : World} {x k v : V} {u ku vu : Value} {t kt et : TypeId} {kd : KeyKd} (hs : SR E S w) (ht : mapTy P t = some (kd, kt, et)) (hx : VR E x u) (hk : VR E k ku) (hv : VR E v vu) (h : mupS S kd x k v = some S') :
    ∃ E' w', (Instr.mapUpdate t u ku vu).run P w = .ok () w' ∧ SR E' S' w' ∧ Ext S.length E S w E' S' w' ∧ S.length ≤ S'.length := by
  unfold mapTy at ht
  split at ht <;> try cases ht
  rename_i k' e' hu
  cases hkk : keyKd P k' with
  | none => rw [hkk] at ht; cases ht
  | some kd' =>
    rw [hkk] at ht
    simp only [Option.map_some, Option.some.injEq, Prod.mk.injEq] at ht
    obtain ⟨rfl, rfl, rfl⟩ := ht
    have hd : ∃ d, P.underlying k' = some d := by
      unfold keyKd at hkk
      cases hd : P.underlying k' with
      | none => rw [hd] at hkk; cases hkk
      | some d => exact ⟨d, rfl⟩
    obtain ⟨d, hd⟩ := hd
    unfold mupS at h
    split at h
    case isFalse => cases h
    rename_i hki
    have hkey := keyIs_sim hkk hd hk hki
    split at h <;> try cases h
    rename_i l
    split at h <;> try cases h
    rename_i es bs clock hl
    cases hx with
    | map hy =>
      rename_i y
      obtain ⟨y', entries, h1, hb, h3, hbs, h4⟩ := hs.obs l _ hl
      rw [hy] at h1; cases h1
      have hlive : live S l := ⟨_, hl, by simp⟩
      have hent : EntriesR E es entries.toList := ⟨by simpa using h3, fun i k v e hk he => h4 i k v e hk (by simpa using he)⟩
      have hck : (Instr.checkKey false 10000 k' ku).run P w = .ok () w := MapKept.run_checkKey hd hkey _ _
      -- the change
      have put : ∀ (es' : List (V × V)) (bs' : List Nat) (ents' : Array MapEntry) (clock' : Nat), EntriesR E es' ents'.toList → bs' = ents'.toList.map (·.born) →
          ∃ E' w', w' = { w with heap := w.heap.setIfInBounds y.b (.map ents' clock') } ∧ SR E' (S.set l (.map es' bs' clock')) w' ∧ Ext S.length E S w E' (S.set l (.map es' bs' clock')) w' := by
        intro es' bs' ents' clock' he hbs'
        have hlt : y.b < w.heap.size := (Array.getElem?_eq_some_iff.1 hb).1
        have := hs.change (E' := E) (w' := { w with heap := w.heap.setIfInBounds y.b (.map ents' clock') }) (ob := .map es' bs' clock') hlive rfl (En.le_refl E) (fun _ _ _ => rfl) (fun st z hz => .inl ⟨st, z, hz, rfl⟩) (by simp)
          (fun b hb' hne => by
            show (w.heap.setIfInBounds y.b _)[b]? = _
            rw [Array.getElem?_setIfInBounds_ne (hne 0 y hy)]) rfl ⟨y, ents', hy, by simp [hlt], by simpa using he.1, hbs', fun i k v e hk he' => he.2 i k v e hk (by simpa using he')⟩
        exact ⟨E, _, rfl, this.1, this.2⟩
      split at h <;> try cases h
      · rename_i i v0 hf
        rcases mapFind_sim hkk hd hk es entries.toList 0 _ hent hf with ⟨g1, _⟩ | ⟨j, v', e, g1, g2, g3, g4, g5, g6, g7⟩
        · cases g1
        · simp only [Option.some.injEq, Prod.mk.injEq, Nat.zero_add] at g1
          obtain ⟨rfl, rfl⟩ := g1
          have hkeq : e.key = ku := by
            have hx := g5
            cases hk <;> cases hkk' : kd' <;> simp [keyIs, hkk'] at hki <;> (generalize e.key = q at hx; cases hx; rfl)
          have hge : entries[i]? = some e := by simpa using g4
          have hfk := MapKept.run_findKey (P := P) (w := w) hd g2
          obtain ⟨E', w', rfl, q1, q2⟩ := put (es.set i (k, v)) bs (entries.modify i fun e => { e with key := ku, val := vu }) clock ⟨by simp [h3], fun j' k2 v2 e2 hk2 he2 => by
            have he2' : (entries.modify i fun e => { e with key := ku, val := vu })[j']? = some e2 := by rw [← Array.getElem?_toList]; exact he2
            rw [Array.getElem?_modify] at he2'
            by_cases hj : i = j'
            · subst hj
              rw [List.getElem?_set_self g6] at hk2; cases hk2
              rw [if_pos rfl, hge] at he2'
              cases he2'
              exact ⟨hk, hv⟩
            · rw [List.getElem?_set_ne hj] at hk2
              rw [if_neg hj] at he2'
              exact h4 j' k2 v2 e2 hk2 he2'⟩ (by
            rw [hbs]
            apply List.ext_getElem?
            intro q
            simp only [List.getElem?_map, Array.getElem?_toList, Array.getElem?_modify]
            split
            · cases entries[q]? <;> rfl
            · rfl)
          refine ⟨E', _, ?_, q1, q2, by simp⟩
          simp [Instr.mapUpdate, run_underlying' hu, MapKept.run_getObj_map hb, hck, hfk, hge, hkeq, MapKept.run_keyThatStays hkey, MapKept.run_setObj_map _ hb, Result.andThen]
      · rename_i hf
        rcases mapFind_sim hkk hd hk es entries.toList 0 _ hent hf with ⟨_, g2⟩ | ⟨j', v', e, g1, _⟩
        · have hfk := MapKept.run_findKey (P := P) (w := w) hd g2
          obtain ⟨E', w', rfl, q1, q2⟩ := put (es ++ [(k, v)]) (bs ++ [clock]) (entries.push { key := ku, val := vu, born := clock }) (clock + 1) ⟨by simp [h3], fun j' k2 v2 e2 hk2 he2 => by
            have he2' : (entries.push { key := ku, val := vu, born := clock })[j']? = some e2 := by rw [← Array.getElem?_toList]; exact he2
            rw [Array.getElem?_push] at he2'
            by_cases hj : j' = entries.size
            · rw [if_pos hj] at he2'
              cases he2'
              rw [List.getElem?_append_right (by omega), show j' - es.length = 0 by omega] at hk2
              simp at hk2
              obtain ⟨rfl, rfl⟩ := hk2
              exact ⟨hk, hv⟩
            · rw [if_neg hj] at he2'
              have := (Array.getElem?_eq_some_iff.1 he2').1
              rw [List.getElem?_append_left (by omega)] at hk2
              exact h4 j' k2 v2 e2 hk2 he2'⟩ (by rw [hbs]; simp)
          refine ⟨E', _, ?_, q1, q2, by simp⟩
          simp [Instr.mapUpdate, run_underlying' hu, MapKept.run_getObj_map hb, hck, hfk, MapKept.run_setObj_map _ hb, Result.andThen]
        · cases g1
end Go.Proofs.YtbifpocccfkhhaaGreatDoor
/- Comparing structs. -/
namespace Go.Proofs.YtbifpocccfkhhaaGreatDoor
open Go

inductive CK where
  | b | i | s
  deriving DecidableEq, Inhabited

def cellEq : CK → V → V → Option Bool
  | .b, .bool a, .bool b => some (a == b)
  | .i, .int k a, .int k' b => if k = k' then some (a == b) else none
  | .s, .str a, .str b => some (a.data.toList == b.data.toList)
  | _, _, _ => none

def eqOffs (xs ys : List V) : List (Nat × CK) → Option Bool
  | [] => some true
  | (o, c) :: os => match xs[o]?, ys[o]? with
    | some a, some b => match cellEq c a b with
      | some true => eqOffs xs ys os
      | some false => some false
      | none => none
    | _, _ => none

def shift (off : Nat) (p : Nat × CK) : Nat × CK := (p.1 + off, p.2)

def compEqs (P : Program) (g : TypeId → Option (List (Nat × CK))) (size : Nat) : List Field → Option (List (Nat × CK))
  | [] => some []
  | f :: fs => if f.name = "_" then none else match loadKind P f.type, g f.type, compEqs P g size fs with
    | some k, some os, some es => match k with
      | none => if f.offset + 1 ≤ size ∧ os.all (fun o => decide (o.1 < 1)) = true then some (os.map (shift f.offset) ++ es) else none
      | some n => if f.offset + n ≤ size ∧ os.all (fun o => decide (o.1 < n)) = true then some (os.map (shift f.offset) ++ es) else none
    | _, _, _ => none

def compEq (P : Program) : Nat → TypeId → Option (List (Nat × CK))
  | 0, _ => none
  | d + 1, t => match P.underlying t with
    | some .bool => some [(0, .b)]
    | some (.int _) => some [(0, .i)]
    | some .string => some [(0, .s)]
    | some (.struct fs) => if P.stoodInHeld t = true then none else match P.info? t with
      | some i => compEqs P (compEq P d) i.size fs.toList
      | none => none
    | _ => none

theorem eqOffs_append {xs ys : List V} : ∀ {a b : List (Nat × CK)}, eqOffs xs ys (a ++ b) = match eqOffs xs ys a with
    | some true => eqOffs xs ys b
    | r => r
  | [], b => rfl
  | (o, c) :: a, b => by
    simp only [List.cons_append, eqOffs]
    split
    · split
      · exact eqOffs_append
      · rfl
      · rfl
    · rfl

theorem eqOffs_map {xs ys xs' ys' : List V} {off : Nat} : ∀ {os : List (Nat × CK)}, (∀ o, o ∈ os → xs[o.1 + off]? = xs'[o.1]? ∧ ys[o.1 + off]? = ys'[o.1]?) → eqOffs xs ys (os.map (shift off)) = eqOffs xs' ys' os
  | [], _ => rfl
  | (o, c) :: os, h => by
    obtain ⟨h1, h2⟩ := h (o, c) (by simp)
    simp only [List.map_cons, eqOffs, shift, h1, h2]
    rw [eqOffs_map (os := os) fun o ho => h o (by simp [ho])]

theorem loadKind_struct {P : Program} {t : TypeId} {n : Nat} (h : loadKind P t = some (some n)) : ∃ i, P.info? t = some i ∧ i.size = n := by
  unfold loadKind at h
  split at h
  · cases hi : P.info? t with
    | none => rw [hi] at h; cases h
    | some i => rw [hi] at h; cases h; exact ⟨i, rfl, rfl⟩
  · cases hi : P.info? t with
    | none => rw [hi] at h; cases h
    | some i => rw [hi] at h; cases h; exact ⟨i, rfl, rfl⟩
  · cases h
  · cases h

theorem compEq_scalar {P : Program} {t : TypeId} {d : Nat} {os : List (Nat × CK)} (hk : loadKind P t = some none) (h : compEq P d t = some os) : (∃ c, os = [(0, c)]) ∧ ∀ fs, P.underlying t ≠ some (.struct fs) := by
  cases d with
  | zero => cases h
  | succ d =>
    simp only [compEq] at h
    split at h
    · rename_i hd; cases h; exact ⟨⟨_, rfl⟩, fun fs => by rw [hd]; simp⟩
    · rename_i hd; cases h; exact ⟨⟨_, rfl⟩, fun fs => by rw [hd]; simp⟩
    · rename_i hd; cases h; exact ⟨⟨_, rfl⟩, fun fs => by rw [hd]; simp⟩
    · rename_i fs hd
      exfalso
      simp only [loadKind, hd] at hk
      cases hi : P.info? t <;> rw [hi] at hk <;> cases hk
    · cases h

theorem compEq_agg {P : Program} {t : TypeId} {d n : Nat} {os : List (Nat × CK)} (hk : loadKind P t = some (some n)) (h : compEq P d t = some os) : ∃ fs, P.underlying t = some (.struct fs) := by
  cases d with
  | zero => cases h
  | succ d =>
    simp only [compEq] at h
    split at h
    · rename_i hd; simp [loadKind, hd] at hk
    · rename_i hd; simp [loadKind, hd] at hk
    · rename_i hd; simp [loadKind, hd] at hk
    · rename_i fs hd; exact ⟨fs, hd⟩
    · cases h

/-- What is asked of a value of a type. -/
def EqFit (P : Program) (t : TypeId) (x : V) : Prop := match P.underlying t with
  | some (.struct _) => x.isAgg = true ∧ ∃ i, P.info? t = some i ∧ x.cells.length = i.size
  | _ => x.isAgg = false

theorem cells_one {x : V} (h : x.isAgg = false) : x.cells = [x] := by
  cases x <;> first | rfl | simp [V.isAgg] at h

theorem part_some {x : V} {off n : Nat} (ha : x.isAgg = true) (hle : off + n ≤ x.cells.length) : ∃ r, x.part off (some n) = some r ∧ r.isAgg = true ∧ r.cells.length = n ∧ ∀ o, o < n → x.cells[o + off]? = r.cells[o]? := by
  cases x <;> simp [V.isAgg] at ha
  rename_i cs
  simp only [V.cells] at hle
  simp only [V.part]
  split
  · rename_i h
    obtain ⟨rfl, rfl, _⟩ := h
    exact ⟨_, rfl, rfl, rfl, fun o _ => rfl⟩
  · refine ⟨_, rfl, rfl, by simp [V.cells]; omega, fun o ho => ?_⟩
    simp only [V.cells]
    rw [List.getElem?_take_of_lt ho, List.getElem?_drop, Nat.add_comm]

theorem eq_run {E : En} {P : Program} {w : World} : ∀ (d : Nat) (t : TypeId) (os : List (Nat × CK)) (x y : V) (u v : Value) (b : Bool), compEq P d t = some os → VR E x u → VR E y v → EqFit P t x → EqFit P t y → eqOffs x.cells y.cells os = some b → (Op.equalIn d t u v).run P w = .ok b w := by
  intro d
  induction d with
  | zero => intro t os x y u v b hc; cases hc
  | succ d ih =>
    intro t os x y u v b hc hx hy fx fy h
    simp only [compEq] at hc
    split at hc <;> try cases hc
    · rename_i hd
      simp only [EqFit, hd] at fx fy
      rw [cells_one fx, cells_one fy] at h
      simp only [eqOffs, List.getElem?_cons_zero] at h
      cases hx <;> cases hy <;> simp [cellEq] at h
      simp only [Op.equalIn, Sem.run_bind, run_underlying' hd, Result.andThen, Sem.run_pure]
      rename_i p q
      cases p <;> cases q <;> simp at h <;> subst h <;> rfl
    · rename_i k hd
      simp only [EqFit, hd] at fx fy
      rw [cells_one fx, cells_one fy] at h
      simp only [eqOffs, List.getElem?_cons_zero] at h
      cases hx <;> cases hy <;> simp [cellEq] at h
      rename_i k1 p k2 q
      simp only [Op.equalIn, Sem.run_bind, run_underlying' hd, Result.andThen]
      by_cases hk : k1 = k2
      · subst hk
        simp at h
        simp only [if_true, Sem.run_pure]
        by_cases hpq : p = q
        · subst hpq; simp at h; subst h; simp
        · have : (p == q) = false := by simpa using hpq
          rw [this] at h ⊢; simp at h; subst h; rfl
      · simp [hk] at h
    · rename_i hd
      simp only [EqFit, hd] at fx fy
      rw [cells_one fx, cells_one fy] at h
      simp only [eqOffs, List.getElem?_cons_zero] at h
      cases hx <;> cases hy <;> simp only [cellEq, reduceCtorEq] at h <;> try (cases h; done)
      rename_i p q
      simp only [Op.equalIn, Sem.run_bind, run_underlying' hd, Result.andThen, Sem.run_pure]
      have hpq : (p == q) = (p.data.toList == q.data.toList) := by
        rw [Bool.eq_iff_iff, MapKept.bytes_beq]
        obtain ⟨x⟩ := p
        obtain ⟨y⟩ := q
        simp
      rw [hpq]
      cases hb : (p.data.toList == q.data.toList) <;> rw [hb] at h <;> simp at h <;> subst h <;> rfl
    · rename_i fs hd
      split at hc
      · cases hc
      rename_i hs
      split at hc <;> try cases hc
      rename_i i hi
      simp only [EqFit, hd] at fx fy
      obtain ⟨ax, ix, hix, lx⟩ := fx
      obtain ⟨ay, iy, hiy, ly⟩ := fy
      rw [hi] at hix hiy
      cases hix
      cases hiy
      obtain ⟨cs, rfl⟩ : ∃ cs, x = .agg cs := by cases x <;> simp [V.isAgg] at ax; exact ⟨_, rfl⟩
      obtain ⟨ds, rfl⟩ : ∃ cs, y = .agg cs := by cases y <;> simp [V.isAgg] at ay; exact ⟨_, rfl⟩
      cases hx with
      | agg hl g =>
        rename_i us
        cases hy with
        | agg hl' g' =>
          rename_i vs
          have hx : VR E (.agg cs) (.agg us) := .agg hl g
          have hy : VR E (.agg ds) (.agg vs) := .agg hl' g'
          simp only [V.cells] at h lx ly
          have hloop : ∀ (l : List Field) (os : List (Nat × CK)) (b : Bool), compEqs P (compEq P d) i.size l = some os → eqOffs cs ds os = some b →
              (forIn (m := Sem) l ((none, ()) : Option Bool × Unit) fun f __s =>
                if f.name ≠ "_" then do
                  let __do_lift ← part f.type us f.offset
                  let __do_lift_1 ← part f.type vs f.offset
                  let __do_lift ← Op.equalIn d f.type __do_lift __do_lift_1
                  if (!__do_lift) = true then pure (ForInStep.done (some false, ()))
                    else pure (ForInStep.yield (none, ()))
                else pure (ForInStep.yield (none, ()))).run P w = .ok (if b then none else some false, ()) w := by
            intro l
            induction l with
            | nil =>
              intro os b hc h
              simp only [compEqs, Option.some.injEq] at hc
              subst hc
              simp only [eqOffs, Option.some.injEq] at h
              subst h
              simp
            | cons f l ihl =>
              intro os b hc h
              simp only [compEqs] at hc
              split at hc
              · cases hc
              rename_i hname
              split at hc <;> try cases hc
              rename_i k os1 es hk hg hes
              -- the parts
              have hparts : ∃ n px py, os1.all (fun o => decide (o.1 < n)) = true ∧ os = os1.map (shift f.offset) ++ es ∧ (V.agg cs).part f.offset k = some px ∧ (V.agg ds).part f.offset k = some py ∧ EqFit P f.type px ∧ EqFit P f.type py ∧
                  (∀ o, o < n → cs[o + f.offset]? = px.cells[o]?) ∧ (∀ o, o < n → ds[o + f.offset]? = py.cells[o]?) := by
                cases k with
                | none =>
                  simp only at hc
                  split at hc <;> cases hc
                  rename_i hcc
                  obtain ⟨hle, hall⟩ := hcc
                  obtain ⟨⟨c, rfl⟩, hns⟩ := compEq_scalar hk hg
                  rw [eqOffs_append] at h
                  simp only [List.map_cons, List.map_nil, shift, eqOffs, Nat.zero_add] at h
                  have h1 : cs[f.offset]? = some (cs[f.offset]'(by omega)) := by simp
                  have h2 : ds[f.offset]? = some (ds[f.offset]'(by omega)) := by simp
                  rw [h1, h2] at h
                  simp only at h
                  have hagg : ∀ (c : CK) (p q : V), p.isAgg = true ∨ q.isAgg = true → cellEq c p q = none := by
                    intro c p q hpq
                    cases c <;> cases p <;> cases q <;> first | rfl | simp [V.isAgg] at hpq
                  have hfit : ∀ p : V, p.isAgg = false → EqFit P f.type p := fun p hp => by
                    unfold EqFit
                    split
                    · rename_i fs' hfs; exact absurd hfs (hns fs')
                    · exact hp
                  refine ⟨1, cs[f.offset]'(by omega), ds[f.offset]'(by omega), hall, rfl, h1, h2, hfit _ ?_, hfit _ ?_, fun o ho => ?_, fun o ho => ?_⟩
                  · cases ha : (cs[f.offset]'(by omega)).isAgg with
                    | false => rfl
                    | true => rw [hagg c _ _ (.inl ha)] at h; cases h
                  · cases ha : (ds[f.offset]'(by omega)).isAgg with
                    | false => rfl
                    | true => rw [hagg c _ _ (.inr ha)] at h; cases h
                  · have : o = 0 := by omega
                    subst this
                    rw [Nat.zero_add, h1, cells_one]
                    · rfl
                    · cases ha : (cs[f.offset]'(by omega)).isAgg with
                      | false => rfl
                      | true => rw [hagg c _ _ (.inl ha)] at h; cases h
                  · have : o = 0 := by omega
                    subst this
                    rw [Nat.zero_add, h2, cells_one]
                    · rfl
                    · cases ha : (ds[f.offset]'(by omega)).isAgg with
                      | false => rfl
                      | true => rw [hagg c _ _ (.inr ha)] at h; cases h
                | some n =>
                  simp only at hc
                  split at hc <;> cases hc
                  rename_i hcc
                  obtain ⟨hle, hall⟩ := hcc
                  obtain ⟨px, p1, p2, p3, p4⟩ := part_some (x := .agg cs) (off := f.offset) (n := n) rfl (by simp only [V.cells]; omega)
                  obtain ⟨py, q1, q2, q3, q4⟩ := part_some (x := .agg ds) (off := f.offset) (n := n) rfl (by simp only [V.cells]; omega)
                  refine ⟨n, px, py, hall, rfl, p1, q1, ?_, ?_, p4, q4⟩
                  all_goals
                    obtain ⟨fs', hfs⟩ := compEq_agg hk hg
                    obtain ⟨i', hi', hn'⟩ := loadKind_struct hk
                    simp only [EqFit, hfs]
                  · exact ⟨p2, i', hi', by omega⟩
                  · exact ⟨q2, i', hi', by omega⟩
              obtain ⟨n, px, py, hall, rfl, p1, p2, p3, p4, p5, p6⟩ := hparts
              obtain ⟨pu, r1, r2⟩ := run_part (P := P) (w := w) hk hx (by simp) p1
              obtain ⟨pv, s1, s2⟩ := run_part (P := P) (w := w) hk hy (by simp) p2
              simp only [List.all_eq_true, decide_eq_true_eq] at hall
              rw [eqOffs_append, eqOffs_map (xs' := px.cells) (ys' := py.cells) fun o ho => ⟨p5 o.1 (hall o ho), p6 o.1 (hall o ho)⟩] at h
              simp only [List.forIn_cons, ne_eq, hname, not_false_eq_true, if_true, Sem.run_bind, r1, s1, Result.andThen]
              cases he : eqOffs px.cells py.cells os1 with
              | none => rw [he] at h; cases h
              | some bb =>
                rw [he] at h
                have hrun := ih f.type os1 px py pu pv bb hg r2 s2 p3 p4 he
                simp only [hrun]
                cases bb with
                | true =>
                  simp only at h
                  simp only [Bool.not_true, Bool.false_eq_true, if_false, Sem.run_pure]
                  exact ihl es b hes h
                | false =>
                  simp only [Option.some.injEq] at h
                  subst h
                  simp only [Bool.not_false, if_true, Sem.run_pure, Bool.false_eq_true, if_false]
          have := hloop fs.toList os b hc h
          simp only [Op.equalIn, Sem.run_bind, run_underlying' hd, Result.andThen, run_program, hs, Bool.false_eq_true, if_false]
          rw [← Array.forIn_toList, this]
          cases b <;> rfl
end Go.Proofs.YtbifpocccfkhhaaGreatDoor
/- Making slices; arrays' elements; bytes. -/
namespace Go.Proofs.YtbifpocccfkhhaaGreatDoor
open Go

/-- A new slice. -/
def mksS (S : St) (sz bytes : Nat) (z : V) (l c : Int) : Option (V × St) :=
  if 0 ≤ l ∧ l ≤ c ∧ (bytes : Int) * c ≤ 281474976710656 ∧ c ≤ 9223372036854775807 ∧ 0 < sz ∧ z.size = sz ∧ (z.cells.all V.flat) = true then
    some (.arr S.length 0 l.toNat l.toNat, S ++ [.arr (List.replicate l.toNat z) sz l.toNat])
  else none

theorem sim_makeSlice {E : En} {S S' : St} {P : Program} {w : World} {z r : V} {t e : TypeId} {i : TypeInfo} {zv : Value} {kl kc : IntKind} {l c : Int} (hs : SR E S w) (ht : P.underlying t = some (.slice e)) (hi : P.info? e = some i) (hz : i.zero = some zv) (hzz : VR E z zv) (h : mksS S i.size i.bytes z l c = some (r, S')) :
    Sim P E S w (Instr.makeSlice t (.int kl l) (.int kc c)) r S' := by
  unfold mksS at h
  split at h
  case isFalse => cases h
  rename_i hc
  obtain ⟨h1, h2, h3, h4, h5, h6, h7⟩ := hc
  simp only [Option.some.injEq, Prod.mk.injEq] at h
  obtain ⟨rfl, rfl⟩ := h
  have hrun := run_make (P := P) w t e i zv ht hi hz kl kc l c h1 h2 h3 h4
  have hno : ∀ st, E.ρ S.length st = none := fun st => by
    cases hr : E.ρ S.length st with
    | none => rfl
    | some x => exact absurd (hs.dom _ _ _ hr) (by omega)
  obtain ⟨c1, c2⟩ := hzz.cells (flat_ne_top h7)
  have hlc : l.toNat ≤ c.toNat := by omega
  obtain ⟨n1, n2⟩ := hs.new (o := .cells (madeCells zv.cells (c.toNat * i.size)) e (0, 0)) (ob := .arr (List.replicate l.toNat z) i.size l.toNat) (st := l.toNat) (N := c.toNat * i.size) (sz := i.size) (by
    refine ⟨⟨h5, by simp⟩, fun v hv => ?_, fun st y hy hst => ?_⟩
    · rw [List.mem_replicate] at hv
      rw [hv.2]; exact h6
    · by_cases hs1 : st = l.toNat
      · subst hs1
        rw [at_same] at hy; cases hy
        refine ⟨by simp, rfl, _, e, push_new, size_madeCells _ _, Nat.mul_le_mul_right _ hlc, fun j v hv hj q c' hc' => ?_⟩
        have hv' := List.mem_of_getElem? hv
        rw [List.mem_replicate] at hv'
        obtain ⟨_, rfl⟩ := hv'
        have hq : q < i.size := by rw [← h6]; exact (List.getElem?_eq_some_iff.1 hc').1
        obtain ⟨d, hd, hdr⟩ := hzz.cells_ex (flat_ne_top h7) hc'
        have hlt : j * i.size + q < c.toNat * i.size := by
          have : (j + 1) * i.size ≤ c.toNat * i.size := Nat.mul_le_mul_right _ (by omega)
          rw [Nat.add_mul] at this
          omega
        refine ⟨d, ?_, hdr.mono (at_le (hno _))⟩
        have hsz : zv.cells.size = i.size := by rw [← c1]; exact h6
        simp only [madeCells, Array.getElem?_map]
        rw [Array.getElem?_range, if_pos hlt]
        simp only [Option.map_some, hsz]
        have hqs := (Array.getElem?_eq_some_iff.1 hd)
        obtain ⟨hq1, hq2⟩ := hqs
        rw [show (j * i.size + q) % i.size = q by rw [Nat.mul_comm, Nat.mul_add_mod, Nat.mod_eq_of_lt hq], getElem!_pos zv.cells q hq1, hq2]
      · exfalso
        simp only [En.at] at hy
        rw [if_neg (by simp; exact hs1), hno] at hy; cases hy)
  refine ⟨_, _, _, hrun, ?_, n1, n2, by simp⟩
  have := VR.arr (E := E.at S.length l.toNat ⟨w.heap.size, c.toNat * i.size, i.size⟩) (l := S.length) (off := 0) (len := l.toNat) (cap := c.toNat) (st := l.toNat) at_same (by simp) hlc
  simpa using this

/-- The place of an array's element. -/
def iaaV (len sz : Nat) (p : V) (ix : Int) : Option V := if 0 ≤ ix ∧ ix < len then faV p (ix.toNat * sz) else none

def arrTy (P : Program) (t : TypeId) : Option (Nat × Nat) :=
  match P.underlying t with
  | some (.array n e) => match P.info? e with
    | some i => if i.size = 0 then none else some (n, i.size)
    | none => none
  | _ => none

theorem sim_iaa {E : En} {S : St} {P : Program} {w : World} {p r : V} {u : Value} {t : TypeId} {k : IntKind} {n sz : Nat} {ix : Int} (hs : SR E S w) (hp : VR E p u) (ho : arrTy P t = some (n, sz)) (h : iaaV n sz p ix = some r) :
    Sim P E S w (Instr.indexAt t u (.int k ix)) r S := by
  unfold iaaV at h
  split at h
  case isFalse => cases h
  rename_i hix
  obtain ⟨b, o, rfl, hr⟩ := hp.fa h
  unfold arrTy at ho
  split at ho <;> try cases ho
  rename_i n' e hu
  split at ho <;> try cases ho
  rename_i i hi
  split at ho <;> cases ho
  rename_i hz
  refine Sim.pure hs ?_ hr
  simp [Instr.indexAt, asIntOf, run_underlying' hu, Result.andThen, Instr.sureAddr, hix.1, hix.2, run_sizeOf hi, add_none]

/-! Bytes and strings. -/
def bytesOf : List V → Option (List UInt8)
  | [] => some []
  | .int .u8 n :: xs => (bytesOf xs).map fun bs => UInt8.ofNat n.toNat :: bs
  | _ => none

def ctsV (S : St) (p : V) : Option V :=
  (elems S p).bind fun xs => (bytesOf xs).map fun bs => .str ⟨bs.toArray⟩

theorem bytesOf_spec : ∀ {xs : List V} {bs : List UInt8}, bytesOf xs = some bs → ∃ ns : List Int, xs = ns.map (V.int .u8) ∧ bs = ns.map fun n => UInt8.ofNat n.toNat
  | [], bs, h => by cases h; exact ⟨[], rfl, rfl⟩
  | x :: xs, bs, h => by
    unfold bytesOf at h
    split at h
    · rename_i he; cases he
    · rename_i n xs' he
      cases he
      cases hb : bytesOf xs with
      | none => rw [hb] at h; cases h
      | some bs' =>
        rw [hb] at h; cases h
        obtain ⟨ns, h1, h2⟩ := bytesOf_spec hb
        exact ⟨n :: ns, by rw [h1]; rfl, by rw [h2]; rfl⟩
    · cases h

theorem push_fold : ∀ (ns : List Int) (r : ByteArray), ns.foldl (fun r n => r.push (UInt8.ofNat n.toNat)) r = ⟨r.data ++ (ns.map fun n => UInt8.ofNat n.toNat).toArray⟩
  | [], r => by cases r; simp
  | n :: ns, r => by
    rw [List.foldl_cons, push_fold ns]
    simp [ByteArray.push]

theorem flats_ints (ns : List Int) : flats (ns.map (V.int .u8)) = ns.map (V.int .u8) := by
  induction ns with
  | nil => rfl
  | cons n ns ih => simp only [flats, List.map_cons, List.flatMap_cons] at *; rw [ih]; rfl

theorem sim_cts {E : En} {S : St} {P : Program} {w : World} {p r : V} {u : Value} {src dst e : TypeId} (hs : SR E S w) (hp : VR E p u) (h1 : P.underlying src = some (.slice e)) (h2 : P.underlying e = some (.int .u8)) (h3 : P.underlying dst = some .string) (h : ctsV S p = some r) :
    Sim P E S w (convert src dst u) r S := by
  unfold ctsV at h
  cases hel : elems S p with
  | none => rw [hel] at h; cases h
  | some xs =>
    rw [hel] at h
    simp only [Option.bind_some] at h
    cases hb : bytesOf xs with
    | none => rw [hb] at h; cases h
    | some bs =>
      rw [hb] at h; cases h
      obtain ⟨ns, rfl, rfl⟩ := bytesOf_spec hb
      obtain ⟨a, cap, us, rfl, hrun, hvr⟩ := run_firstCells (P := P) (sz := 1) hs hp hel (fun x hx => by
        simp only [List.mem_map] at hx; obtain ⟨n, _, rfl⟩ := hx; rfl) (by omega)
      rw [flats_ints] at hvr
      have hus : us = (ns.map (Value.int .u8)).toArray := by
        cases hvr with
        | agg hl g =>
          apply Array.ext
          · simpa using hl.symm
          · intro i hi1 hi2
            have hi : i < ns.length := by simpa using hi2
            have hq := g i (.int .u8 ns[i]) us[i] (by simp [hi]) (by simp)
            have : ∀ (n : Int) (q : Value), VR E (.int .u8 n) q → q = .int .u8 n := by intro n q h; cases h; rfl
            rw [this _ _ hq]
            simp
      refine Sim.pure hs ?_ (.str _)
      rw [run_convert_bytes_string w src dst e a _ cap h1 h2 h3]
      cases a with
      | none =>
        simp only [Builtin.firstCells, Sem.run_pure, Result.ok.injEq] at hrun
        have : ns = [] := by
          have h0 := hrun.1
          rw [hus] at h0
          cases ns with
          | nil => rfl
          | cons n ns => simp at h0
        subst this
        simp [Conv.bytesToString]
        rfl
      | some a =>
        simp only [Builtin.firstCells] at hrun
        have := run_bytesToString (P := P) w a (ns.map (V.int .u8)).length cap ns (by rw [← hus]; simpa using hrun)
        rw [this, push_fold]
        simp

theorem SR.lay' {E : En} {S : St} {w w' : World} (h : SR E S w) {cells : Array Value} {t : TypeId} {fz : Nat × Nat} (g1 : w'.heap.size = w.heap.size + 1) (g2 : w'.heap[w.heap.size]? = some (.cells cells t fz)) (g3 : ∀ b, b < w.heap.size → w'.heap[b]? = w.heap[b]?) (g4 : (w'.output, w'.os) = (w.output, w.os)) :
    SR (E.lay w.heap.size cells) S w' ∧ E.le (E.lay w.heap.size cells) ∧ Ext S.length E S w (E.lay w.heap.size cells) S w' := by
  have hno : ∀ o, E.I w.heap.size o = none := fun o => by
    cases hc : E.I w.heap.size o with
    | none => rfl
    | some c => exact absurd (cell?_lt (h.I _ _ _ hc)) (by omega)
  have hle : E.le (E.lay w.heap.size cells) := ⟨fun b o c hc => by
    by_cases hb : b = w.heap.size
    · subst hb; rw [hno] at hc; cases hc
    · simp [En.lay, hb]; exact hc, fun _ _ _ h => h⟩
  refine ⟨⟨h.gl.old hle.1 (fun b _ _ _ hb _ => g3 b (heap_lt hb)), ?_, ?_, h.dom, ?_, ?_, h.inj⟩, hle, ⟨by omega, hle.1, fun _ _ _ _ hx => hx, fun _ _ hx => hx, fun b hb => .inl hb, ?_, fun b hb _ => g3 b hb, g4⟩⟩
  · intro b o c hc
    by_cases hb : b = w.heap.size
    · subst hb
      simp only [En.lay, if_true] at hc
      unfold World.cell?
      rw [g2]; simpa using hc
    · simp only [En.lay, hb, if_false] at hc
      have := h.I b o c hc
      rw [cell?_heap (g3 b (cell?_lt this))]; exact this
  · intro l o hl
    by_cases hd : o = .dead
    · subst hd; trivial
    exact (h.obs l o hl).mono hle (fun _ _ hx => hx) (fun st' x hx => g3 _ (h.lt _ ⟨l, st', x, ⟨o, hl, hd⟩, hx, rfl⟩))
  · intro b o hb
    have h1 := h.lt b hb
    simp only [En.lay]
    rw [if_neg (by omega)]
    exact h.apart b o hb
  · intro b hb; have := h.lt b hb; omega
  · intro b o c hc
    by_cases hb : b = w.heap.size
    · exact .inr (.inr (by omega))
    · simp only [En.lay, hb, if_false] at hc; exact .inl hc

/-- The bytes of a string: memory that is never written. -/
def ctbV (s : ByteArray) : V := .sl false (s.data.toList.map fun b => .int .u8 b.toNat)

theorem sim_ctb {E : En} {S : St} {P : Program} {w : World} {s : ByteArray} {src dst e : TypeId} (hs : SR E S w) (h0 : P.underlying src = some .string) (h1 : P.underlying dst = some (.slice e)) (h2 : P.underlying e = some (.int .u8)) : Sim P E S w (convert src dst (.string s)) (ctbV s) S := by
  let q := Question.appendCap s.size 0 e
  let cap := q.cut (w.tape w.drawn q)
  have hcap : s.size ≤ cap := by simp [cap, q, Question.cut]
  let cells : Array Value := s.data.map (fun b => Value.int .u8 (b.toNat : Nat)) ++ Array.replicate (cap - s.size) (.int .u8 0)
  let w1 : World := { w with drawn := w.drawn + 1 }
  let w2 : World := { w1 with heap := w1.heap.push (.cells cells e (0, 0)) }
  let w3 : World := w2.freeze { block := w.heap.size, off := cells.size } 1
  have hch : (choose q).run P w = .ok cap w1 := by
    simp [choose, Sem.run, Question.forced, cap, q, w1]
  have hrun : (convert src dst (.string s)).run P w = .ok (.slice (some ⟨w.heap.size, 0, none⟩) s.size cap) w3 := by
    simp only [convert, Sem.run_bind, run_underlying' h0, run_underlying' h1, run_underlying' h2, Result.andThen, Conv.stringToBytes]
    rw [show (choose (.appendCap s.size 0 e)).run P w = .ok cap w1 from hch]
    simp only [run_newRow]
    have hsh : w2.shape? w.heap.size = some (e, cells.size) := by
      simp [World.shape?, w2, w1]
    simp only [markStringish, Sem.run_bind, shape, Sem.run]
    rw [show ({ w1 with heap := w1.heap.push (.cells cells e (0, 0)) } : World) = w2 from rfl, show w1.heap.size = w.heap.size from rfl, hsh]
    simp only [Result.andThen, freeze, Sem.run, Sem.run_pure]
    rfl
  -- the world behind it
  have hw3 : w3.heap.size = w.heap.size + 1 ∧ (∃ fz, w3.heap[w.heap.size]? = some (.cells cells e fz)) ∧ (∀ b, b < w.heap.size → w3.heap[b]? = w.heap[b]?) ∧ (w3.output, w3.os) = (w.output, w.os) := by
    refine ⟨?_, ?_, fun b hb => ?_, ?_⟩
    · simp [w3, World.freeze, w2, w1]
    · refine ⟨(cells.size, cells.size + 1), ?_⟩
      simp only [w3, World.freeze, w2, w1]
      rw [if_neg (by decide)]
      simp only []
      rw [Array.getElem?_modify, if_pos rfl, Array.getElem?_push, if_pos rfl]
      rfl
    · simp only [w3, World.freeze, w2, w1, Array.getElem?_modify]
      rw [if_neg (by decide)]
      simp only []
      rw [Array.getElem?_modify, if_neg (by omega), Array.getElem?_push, if_neg (by omega)]
    · simp only [w3, World.freeze]
      rw [if_neg (by decide)]
  obtain ⟨g1, ⟨fz, g2⟩, g3, g4⟩ := hw3
  obtain ⟨r1, r2, r3⟩ := hs.lay' (cells := cells) (t := e) (fz := fz) g1 g2 g3 g4
  refine ⟨_, _, w3, hrun, ?_, r1, r3, Nat.le_refl _⟩
  have hget : ∀ (j : Nat) (b : UInt8), s.data.toList[j]? = some b → cells[j]? = some (.int .u8 (b.toNat : Nat)) := fun j b hj => by
    have hlt : j < s.data.size := by simpa using (List.getElem?_eq_some_iff.1 hj).1
    simp only [cells]
    rw [Array.getElem?_append_left (by simpa using hlt), Array.getElem?_map]
    have : s.data[j]? = some b := by rw [← Array.getElem?_toList]; exact hj
    rw [this]; rfl
  have hI : ∀ (j : Nat) (b : UInt8), s.data.toList[j]? = some b → (E.lay w.heap.size cells).I w.heap.size j = some (.int .u8 ((b.toNat : Nat) : Int)) := fun j b hj => by
    simp only [En.lay, if_true]
    rw [hget j b hj]
  have hlen : s.size = (s.data.toList.map fun b => V.int .u8 (b.toNat : Nat)).length := by rw [List.length_map]; rfl
  rw [hlen]
  refine VR.sl (b := w.heap.size) (o := 0) (sz := 1) (by rw [← hlen]; exact hcap) (fun h => by cases h) (fun v hv => ?_) (fun i j hi hj => ?_) (fun i v j c' c hv hc hi => ?_)
  · simp only [List.mem_map] at hv
    obtain ⟨b, _, rfl⟩ := hv
    rfl
  · have : j = 0 := by omega
    subst this
    have hi' : i < s.data.toList.length := by simpa using hi
    rw [Nat.zero_add, Nat.mul_one, Nat.add_zero, hI i (s.data.toList[i]) (List.getElem?_eq_getElem hi')]; rfl
  · simp only [List.getElem?_map, Option.map_eq_some_iff] at hv
    obtain ⟨b, hb, rfl⟩ := hv
    have hj : j = 0 := by
      have := (List.getElem?_eq_some_iff.1 hc).1
      simp [V.cells] at this; exact this
    subst hj
    simp [V.cells] at hc
    subst hc
    rw [Nat.zero_add, Nat.mul_one, Nat.add_zero, hI i b hb] at hi
    cases hi
    exact .int _ _
end Go.Proofs.YtbifpocccfkhhaaGreatDoor
/- Ranges over maps; delete. -/
namespace Go.Proofs.YtbifpocccfkhhaaGreatDoor
open Go

/-- An object changes in its own block. -/
theorem SR.blockSet {E : En} {S : St} {w : World} (h : SR E S w) {l : Nat} {o ob : Ob} {x : Blk} {b : Obj} (hl : S[l]? = some o) (hd : o ≠ .dead) (hx : E.ρ l 0 = some x) (hlt : x.b < w.heap.size)
    (hn : OR E { w with heap := w.heap.setIfInBounds x.b b } l ob) : SR E (S.set l ob) { w with heap := w.heap.setIfInBounds x.b b } ∧ Ext S.length E S w E (S.set l ob) { w with heap := w.heap.setIfInBounds x.b b } := by
  refine h.change (E' := E) (w' := { w with heap := w.heap.setIfInBounds x.b b }) ⟨o, hl, hd⟩ rfl (En.le_refl E) (fun _ _ _ => rfl) (fun st z hz => .inl ⟨st, z, hz, rfl⟩) (by simp) (fun b' hb' hne => ?_) rfl hn
  show (w.heap.setIfInBounds x.b _)[b']? = _
  rw [Array.getElem?_setIfInBounds_ne (hne 0 x hx)]

/-- A new iterator over a map. -/
def rngS (S : St) (x : V) : Option (V × St) :=
  match x with
  | .map lm => match S[lm]? with
    | some (.map _ _ ck) => some (.ptr S.length 0 0 0, S ++ [.iter lm ck [] ck])
    | _ => none
  | _ => none

theorem sim_range {E : En} {S S' : St} {P : Program} {w : World} {x r : V} {u : Value} {t : TypeId} {q : KeyKd × TypeId × TypeId} (hs : SR E S w) (ht : mapTy P t = some q) (hx : VR E x u) (h : rngS S x = some (r, S')) :
    Sim P E S w (Instr.range t u) r S' := by
  unfold mapTy at ht
  split at ht <;> try cases ht
  rename_i k' e' hu
  unfold rngS at h
  split at h <;> try cases h
  rename_i lm
  split at h <;> try cases h
  rename_i es bs ck hl
  cases hx with
  | map hy =>
    rename_i y
    obtain ⟨y', entries, h1, hb, _⟩ := hs.obs lm _ hl
    rw [hy] at h1; cases h1
    have hlt : lm < S.length := (List.getElem?_eq_some_iff.1 hl).1
    have hno : E.ρ S.length 0 = none := by
      cases hr : E.ρ S.length 0 with
      | none => rfl
      | some z => exact absurd (hs.dom _ _ _ hr) (by omega)
    have hy' : (E.at S.length 0 ⟨w.heap.size, 0, 0⟩).ρ lm 0 = some y := (at_le hno).2 _ _ _ hy
    obtain ⟨n1, n2⟩ := hs.new (o := .mapIter (some y.b) ck #[] ck) (ob := .iter lm ck [] ck) (st := 0) (N := 0) (sz := 0) ⟨⟨w.heap.size, 0, 0⟩, y, at_same, hy', push_new⟩
    refine ⟨.pointer (some ⟨w.heap.size, 0, none⟩), _, _, ?_, ?_, n1, n2, by simp⟩
    · simp [Instr.range, run_underlying' hu, MapKept.run_getObj_map hb, newObj, Sem.run, Result.andThen]
    · have := VR.ptr (E := E.at S.length 0 ⟨w.heap.size, 0, 0⟩) (l := S.length) (st := 0) (x := ⟨w.heap.size, 0, 0⟩) 0 0 at_same
      simpa using this

/-- The next entry: one of these. -/
def nxtS (S : St) (p : V) : List (V × St) :=
  match p with
  | .ptr l 0 0 0 => match S[l]? with
    | some (.iter lm since seen last) => match S[lm]? with
      | some (.map es bs ck) => if (bs.all fun b => decide (b < since)) = true ∧ since ≤ last then
          match (es.zip bs).filter fun q => !seen.contains q.2 with
          | [] => [(.tup [.bool false], S)]
          | c :: cs => (c :: cs).map fun q => (.tup [.bool true, q.1.1, q.1.2], S.set l (.iter lm since (seen ++ [q.2]) ck))
        else []
      | _ => []
    | _ => []
  | _ => []

theorem sim_next {E : En} {S : St} {P : Program} {w : World} {p : V} {u : Value} {t : TypeId} (hs : SR E S w) (hp : VR E p u) (h : nxtS S p ≠ []) : ∃ q, q ∈ nxtS S p ∧ Sim P E S w (Instr.next u false t) q.1 q.2 := by
  unfold nxtS at h ⊢
  split at h <;> try exact absurd rfl h
  rename_i l
  split at h <;> try exact absurd rfl h
  rename_i lm since seen last hl
  split at h <;> try exact absurd rfl h
  rename_i es bs ck hm
  split at h
  case isFalse => exact absurd rfl h
  rename_i hc
  rw [if_pos hc]
  obtain ⟨hall, hsc⟩ := hc
  cases hp with
  | ptr i off hr =>
    rename_i x
    obtain ⟨x', y, h1, h2, h3⟩ := hs.obs l _ hl
    rw [hr] at h1; cases h1
    obtain ⟨y', entries, g1, g2, g3, g4, g5⟩ := hs.obs lm _ hm
    rw [h2] at g1; cases g1
    have hlt : x.b < w.heap.size := (Array.getElem?_eq_some_iff.1 h3).1
    have hold : ∀ e ∈ entries.toList, e.born < since := fun e he => by
      simp only [List.all_eq_true, decide_eq_true_eq] at hall
      exact hall e.born (by rw [g4]; exact List.mem_map_of_mem he)
    -- the entries that are left, and ours
    have hleft : ∀ e, e ∈ entries.toList → seen.contains e.born = false → ∃ k v, ((k, v), e.born) ∈ (es.zip bs).filter (fun q => !seen.contains q.2) ∧ VR E k e.key ∧ VR E v e.val := by
      intro e he hse
      obtain ⟨j, hj⟩ := List.getElem?_of_mem he
      have hj1 : j < entries.toList.length := (List.getElem?_eq_some_iff.1 hj).1
      have hj2 : j < es.length := by rw [g3]; simpa using hj1
      have hes : es[j]? = some es[j] := List.getElem?_eq_getElem hj2
      obtain ⟨a, b⟩ := g5 j es[j].1 es[j].2 e hes (by simpa using hj)
      refine ⟨es[j].1, es[j].2, ?_, a, b⟩
      rw [List.mem_filter]
      refine ⟨?_, by simpa using hse⟩
      have hbs : bs[j]? = some e.born := by rw [g4, List.getElem?_map, hj]; rfl
      exact List.mem_of_getElem? (show (es.zip bs)[j]? = some (es[j], e.born) by rw [List.getElem?_zip_eq_some]; exact ⟨hes, hbs⟩)
    have hnil : (leftOf entries seen.toArray).size = 0 ↔ (es.zip bs).filter (fun q => !seen.contains q.2) = [] := by
      unfold leftOf
      rw [Array.size_eq_zero_iff, Array.filter_eq_empty_iff, List.filter_eq_nil_iff]
      constructor
      · intro hh q hq
        obtain ⟨j, hj⟩ := List.getElem?_of_mem hq
        rw [List.getElem?_zip_eq_some] at hj
        have hb := hj.2
        rw [g4, List.getElem?_map, Option.map_eq_some_iff] at hb
        obtain ⟨e, he, hbe⟩ := hb
        have := hh e (by simpa using List.mem_of_getElem? he)
        rw [← hbe]
        simpa using this
      · intro hh e he
        intro hse
        obtain ⟨k, v, hmem, _⟩ := hleft e (by simpa using he) (by simpa using hse)
        rw [List.mem_filter] at hmem
        exact hh _ hmem.1 hmem.2
    have hu : (Value.pointer (some ⟨x.b, 0 * x.sz + 0, none⟩)) = .pointer (some ⟨x.b, 0, none⟩) := by simp
    rw [hu]
    rcases run_next_at (P := P) w t x.b y.b since last seen.toArray entries ck h3 g2 hold hsc with ⟨hz, hrun⟩ | ⟨e, he, w1, hw1, hrun⟩
    · rw [hnil.1 hz]
      refine ⟨_, List.mem_singleton.2 rfl, _, E, w, hrun, .tup rfl fun i v u hv hu => ?_, hs, Ext.refl _ _ _ _, Nat.le_refl _⟩
      match i with
      | 0 => simp at hv hu; subst hv; subst hu; exact .bool _
      | i + 1 => simp at hv
    · have he' : e ∈ entries.toList ∧ seen.contains e.born = false := by
        simp only [leftOf, Array.toList_filter, List.mem_filter] at he
        exact ⟨he.1, by simpa using he.2⟩
      obtain ⟨k, v, hmem, hk, hv⟩ := hleft e he'.1 he'.2
      have hs1 : SR E S w1 := by rcases hw1 with rfl | rfl <;> first | exact hs | exact hs.heap rfl
      have hx1 : Ext S.length E S w E S w1 := by rcases hw1 with rfl | rfl <;> first | exact Ext.refl _ _ _ _ | exact Ext.heap _ rfl rfl
      have hlt1 : x.b < w1.heap.size := by rcases hw1 with rfl | rfl <;> exact hlt
      obtain ⟨s1, s2⟩ := hs1.blockSet (ob := .iter lm since (seen ++ [e.born]) ck) (b := .mapIter (some y.b) since (seen.toArray.push e.born) ck) hl (by simp) hr hlt1 ⟨x, y, hr, h2, by simp [hlt1]⟩
      have hq : (V.tup [.bool true, k, v], S.set l (.iter lm since (seen ++ [e.born]) ck)) ∈ (match (es.zip bs).filter fun q => !seen.contains q.2 with
          | [] => [(V.tup [.bool false], S)]
          | c :: cs => (c :: cs).map fun (q : (V × V) × Nat) => (V.tup [.bool true, q.1.1, q.1.2], S.set l (.iter lm since (seen ++ [q.2]) ck))) := by
        cases hf : (es.zip bs).filter fun q => !seen.contains q.2 with
        | nil => rw [hf] at hmem; cases hmem
        | cons c cs => rw [hf] at hmem; exact List.mem_map.2 ⟨_, hmem, rfl⟩
      refine ⟨_, hq, _, E, _, hrun, ?_, s1, hx1.trans s2, by simp⟩
      refine .tup rfl fun i a b ha hb => ?_
      match i with
      | 0 => simp at ha hb; subst ha; subst hb; exact .bool _
      | 1 => simp at ha hb; subst ha; subst hb; exact hk
      | 2 => simp at ha hb; subst ha; subst hb; exact hv
      | i + 3 => simp at ha

/-- The entry of the step. -/
def entS (S : St) (p : V) : Option V :=
  match p with
  | .ptr l 0 0 0 => match S[l]? with
    | some (.iter lm _ seen last) => match S[lm]? with
      | some (.map es bs ck) => if ck = last ∧ bs.Nodup then match seen.getLast? with
          | some b => match (es.zip bs).find? fun q => q.2 == b with
            | some q => some (.tup [q.1.1, q.1.2])
            | none => none
          | none => none
        else none
      | _ => none
    | _ => none
  | _ => none

theorem sim_entry {E : En} {S : St} {P : Program} {w : World} {p r : V} {u : Value} (hs : SR E S w) (hp : VR E p u) (h : entS S p = some r) : Sim P E S w (Instr.entry u) r S := by
  unfold entS at h
  split at h <;> try cases h
  rename_i l
  split at h <;> try cases h
  rename_i lm since seen last hl
  split at h <;> try cases h
  rename_i es bs ck hm
  split at h <;> try cases h
  rename_i hc
  obtain ⟨rfl, hnd⟩ := hc
  split at h <;> try cases h
  rename_i b hb
  split at h <;> try cases h
  rename_i q hq
  cases hp with
  | ptr i off hr =>
    rename_i x
    obtain ⟨x', y, h1, h2, h3⟩ := hs.obs l _ hl
    rw [hr] at h1; cases h1
    obtain ⟨y', entries, g1, g2, g3, g4, g5⟩ := hs.obs lm _ hm
    rw [h2] at g1; cases g1
    have hu : (Value.pointer (some ⟨x.b, 0 * x.sz + 0, none⟩)) = .pointer (some ⟨x.b, 0, none⟩) := by simp
    rw [hu]
    have hqb : q.2 = b := by simpa using List.find?_some hq
    obtain ⟨j, hj⟩ := List.getElem?_of_mem (List.mem_of_find?_eq_some hq)
    rw [List.getElem?_zip_eq_some] at hj
    have hbj := hj.2
    rw [g4, List.getElem?_map, Option.map_eq_some_iff] at hbj
    obtain ⟨e, he, hbe⟩ := hbj
    obtain ⟨k1, k2⟩ := g5 j q.1.1 q.1.2 e hj.1 (by simpa using he)
    have hseen : seen.toArray = seen.dropLast.toArray.push e.born := by
      rw [hbe, hqb]
      have : seen = seen.dropLast ++ [b] := by
        obtain ⟨zs, rfl⟩ := List.getLast?_eq_some_iff.1 hb
        simp
      conv => lhs; rw [this]
      simp
    rw [hseen] at h3
    have hrun := run_entry_at (P := P) w x.b y.b since seen.dropLast.toArray entries ck e h3 g2 (by simpa using List.mem_of_getElem? he) (by rw [← g4]; exact hnd)
    refine ⟨_, E, w, hrun, .tup rfl fun i a b ha hb => ?_, hs, Ext.refl _ _ _ _, Nat.le_refl _⟩
    match i with
    | 0 => simp at ha hb; subst ha; subst hb; exact k1
    | 1 => simp at ha hb; subst ha; subst hb; exact k2
    | i + 2 => simp at ha

/-- delete. -/
def delS (S : St) (kd : KeyKd) (x k : V) : Option St :=
  if keyIs kd k = true then match x with
    | .map l => match S[l]? with
      | some (.map es bs ck) => match mapFind kd k es 0 with
        | some (some (i, _)) => some (S.set l (.map (es.eraseIdx i) (bs.eraseIdx i) ck))
        | some none => some (S.set l (.map es bs ck))
        | none => none
      | _ => none
    | _ => none
  else none

theorem sim_delete {E : En} {S S' : St} {P : Program} {w : World} {x k : V} {u ku : Value} {ts : Array TypeId} {T t kt et : TypeId} {kd : KeyKd} (hs : SR E S w) (hts : ts[0]? = some t) (ht : mapTy P t = some (kd, kt, et)) (hx : VR E x u) (hk : VR E k ku) (h : delS S kd x k = some S') :
    Sim P E S w (Builtin.delete_ ts T #[u, ku]) (.tup []) S' := by
  unfold mapTy at ht
  split at ht <;> try cases ht
  rename_i k' e' hu
  cases hkk : keyKd P k' with
  | none => rw [hkk] at ht; cases ht
  | some kd' =>
    rw [hkk] at ht
    simp only [Option.map_some, Option.some.injEq, Prod.mk.injEq] at ht
    obtain ⟨rfl, rfl, rfl⟩ := ht
    have hd : ∃ d, P.underlying k' = some d := by
      unfold keyKd at hkk
      cases hd : P.underlying k' with
      | none => rw [hd] at hkk; cases hkk
      | some d => exact ⟨d, rfl⟩
    obtain ⟨d, hd⟩ := hd
    unfold delS at h
    split at h
    case isFalse => cases h
    rename_i hki
    have hkey := keyIs_sim hkk hd hk hki
    split at h <;> try cases h
    rename_i l
    split at h <;> try cases h
    rename_i es bs clock hl
    cases hx with
    | map hy =>
      rename_i y
      obtain ⟨y', entries, h1, hb, h3, hbs, h4⟩ := hs.obs l _ hl
      rw [hy] at h1; cases h1
      have hent : EntriesR E es entries.toList := ⟨by simpa using h3, fun i k v e hk he => h4 i k v e hk (by simpa using he)⟩
      have hck : ∀ b, (Instr.checkKey b 10000 k' ku).run P w = .ok () w := fun b => MapKept.run_checkKey hd hkey _ _
      have hlt : y.b < w.heap.size := (Array.getElem?_eq_some_iff.1 hb).1
      split at h <;> try cases h
      · rename_i i v0 hf
        rcases mapFind_sim hkk hd hk es entries.toList 0 _ hent hf with ⟨g1, _⟩ | ⟨j, v', e, g1, g2, g3, g4, g5, g6, g7⟩
        · cases g1
        · simp only [Option.some.injEq, Prod.mk.injEq, Nat.zero_add] at g1
          obtain ⟨rfl, rfl⟩ := g1
          have hfk := MapKept.run_findKey (P := P) (w := w) hd g2
          have hij : i < entries.size := by rw [← h3]; exact g6
          have her : (entries.eraseIdxIfInBounds i).toList = entries.toList.eraseIdx i := by
            unfold Array.eraseIdxIfInBounds
            rw [dif_pos hij]; simp
          have hsz : (entries.eraseIdxIfInBounds i).size = (entries.toList.eraseIdx i).length := by rw [← her, Array.length_toList]
          have hmap : ∀ (l : List MapEntry) (i : Nat), (l.map (·.born)).eraseIdx i = (l.eraseIdx i).map (·.born) := by
            intro l
            induction l with
            | nil => intro i; rfl
            | cons a l ih =>
              intro i
              cases i with
              | zero => rfl
              | succ i => simp only [List.map_cons, List.eraseIdx_cons_succ, ih]
          obtain ⟨s1, s2⟩ := hs.blockSet (ob := .map (es.eraseIdx i) (bs.eraseIdx i) clock) (b := .map (entries.eraseIdxIfInBounds i) clock) hl (by simp) hy hlt ⟨y, entries.eraseIdxIfInBounds i, hy, by simp [hlt], by
              rw [hsz, List.length_eraseIdx, List.length_eraseIdx]; simp [h3], by rw [her, hbs, hmap], fun j' k2 v2 e2 hk2 he2 => by
              have he2' : (entries.toList.eraseIdx i)[j']? = some e2 := by rw [← her, Array.getElem?_toList]; exact he2
              rw [List.getElem?_eraseIdx] at hk2 he2'
              split at hk2 <;> rename_i hji
              · rw [if_pos hji] at he2'; exact h4 j' k2 v2 e2 hk2 (by simpa using he2')
              · rw [if_neg hji] at he2'; exact h4 (j' + 1) k2 v2 e2 hk2 (by simpa using he2')⟩
          refine ⟨.tuple #[], E, _, ?_, .tup rfl (fun i v u hv => by simp at hv), s1, s2, by simp⟩
          simp [Builtin.delete_, hts, run_underlying' hu, MapKept.run_getObj_map hb, hck, hfk, MapKept.run_setObj_map _ hb, Result.andThen]
      · rename_i hf
        rcases mapFind_sim hkk hd hk es entries.toList 0 _ hent hf with ⟨_, g2⟩ | ⟨j', v', e, g1, _⟩
        · have hfk := MapKept.run_findKey (P := P) (w := w) hd g2
          obtain ⟨s1, s2⟩ := hs.blockSet (ob := .map es bs clock) (b := .map entries clock) hl (by simp) hy hlt ⟨y, entries, hy, by simp [hlt], h3, hbs, h4⟩
          refine ⟨.tuple #[], E, _, ?_, .tup rfl (fun i v u hv => by simp at hv), s1, s2, by simp⟩
          simp [Builtin.delete_, hts, run_underlying' hu, MapKept.run_getObj_map hb, hck, hfk, MapKept.run_setObj_map _ hb, Result.andThen]
        · cases g1
end Go.Proofs.YtbifpocccfkhhaaGreatDoor
/- Operands; further operations. -/
namespace Go.Proofs.YtbifpocccfkhhaaGreatDoor
open Go

inductive Opd where
  | t (n : Nat)
  | c (v : V)
  | f (k : FuncId)
  deriving Inhabited

def Opd.ev (e : Env) : Opd → Option V
  | .t n => e.get n
  | .c v => some v
  | .f k => some (.fn (.func k) [] [])

def vOf1 : Value → V
  | .bool b => .bool b
  | .int k n => .int k n
  | .string s => .str s
  | .pointer none => .nilp
  | .slice none 0 0 => .sl true []
  | .map none => .nilmap
  | .nilFunc => .nilfn
  | .nilIface => .niliface
  | _ => .top
def vOf : Value → V
  | .agg cs => .agg (cs.toList.map vOf1)
  | v => vOf1 v

theorem vOf1_spec (E : En) (v : Value) : VR E (vOf1 v) v := by
  unfold vOf1
  split <;> constructor
theorem vOf_spec (E : En) (v : Value) : VR E (vOf v) v := by
  unfold vOf
  split
  · rename_i cs
    refine .agg (by simp) fun i v u hv hu => ?_
    simp only [List.getElem?_map, Option.map_eq_some_iff] at hv
    obtain ⟨x, hx, rfl⟩ := hv
    simp at hx
    rw [hx] at hu; cases hu
    exact vOf1_spec E _
  · exact vOf1_spec E _

def compOpd : Operand → Option Opd
  | .tmp t => some (.t t)
  | .const v => some (.c (vOf v))
  | .func f => some (.f f)
  | .global g => some (.c (.glob g 0))

theorem opd_sim {E : En} {e : Env} {a : Act} {o : Operand} {o' : Opd} {v : V} (ht : Tmps E e a.tmps) (hc : compOpd o = some o') (hv : o'.ev e = some v) : VR E v (a.eval o) := by
  cases o <;> simp only [compOpd, Option.some.injEq, reduceCtorEq] at hc <;> subst hc
  · simp only [Opd.ev] at hv
    obtain ⟨u, hu, hr⟩ := ht _ _ hv
    simp only [Act.eval]
    rw [show a.tmps.getD _ undef = u by simp [hu]]; exact hr
  · simp only [Opd.ev, Option.some.injEq] at hv; subst hv
    exact vOf_spec E _
  · simp only [Opd.ev, Option.some.injEq] at hv; subst hv
    exact .glob _ _
  · simp only [Opd.ev, Option.some.injEq] at hv; subst hv
    exact .fn rfl rfl (fun i v u h => by simp at h) (fun i v u h => by simp at h)

def Opd.tmps : Opd → List Nat
  | .t n => [n]
  | _ => []

def evs (e : Env) : List Opd → Option (List V)
  | [] => some []
  | x :: xs => match x.ev e, evs e xs with
    | some v, some vs => some (v :: vs)
    | _, _ => none

def evParts (e : Env) : List (Nat × Nat × Nat × Opd) → Option (List (Nat × Nat × Nat × V))
  | [] => some []
  | (f, o, n, x) :: ps => match x.ev e, evParts e ps with
    | some v, some vs => some ((f, o, n, v) :: vs)
    | _, _ => none

def intOf? : V → Option Int
  | .int _ n => some n
  | _ => none

def evInt (e : Env) : Option Opd → Option (Option Int)
  | none => some none
  | some x => match x.ev e with
    | some (.int _ n) => some (some n)
    | _ => none


/-! Further operations. -/
inductive X where
  | eqs (neg : Bool) (sz : Nat) (os : List (Nat × CK)) (x y : Opd)
  | eqn (neg : Bool) (x : Opd)
  | lkp (kd : KeyKd) (z : V) (ok : Bool) (x k : Opd)
  | mup (kd : KeyKd) (x k v : Opd)
  | mkm
  | mm (mx : Bool) (x y : Opd)
  | mks (sz bytes : Nat) (z : V) (l c : Opd)
  | iaa (n sz : Nat) (x i : Opd)
  | cts (x : Opd)
  | ctb (x : Opd)
  | rng (x : Opd)
  | nxt (x : Opd)
  | ent (x : Opd)
  | del (kd : KeyKd) (x k : Opd)
  | wrap (n : Nat) (x : Opd)
  | ixa (len sz : Nat) (kd : Option Nat) (x i : Opd)
  deriving Inhabited

def mmV (mx : Bool) : V → V → Option V
  | .int k a, .int _ b => some (.int k (if mx then (if b > a then b else a) else (if b < a then b else a)))
  | _, _ => none

def evX (e : Env) (S : St) : X → Option (V × St)
  | .eqs neg sz os x y => match x.ev e, y.ev e with
    | some (.agg cs), some (.agg ds) => if cs.length = sz ∧ ds.length = sz then (eqOffs cs ds os).map fun b => (.bool (if neg then !b else b), S) else none
    | _, _ => none
  | .eqn neg x => match x.ev e with
    | some (.sl _ (_ :: _)) => some (.bool neg, S)
    | some (.arr ..) => some (.bool neg, S)
    | _ => none
  | .lkp kd z ok x k => match x.ev e, k.ev e with
    | some m, some key => (lkpV S kd z ok m key).map fun r => (r, S)
    | _, _ => none
  | .mup kd x k v => match x.ev e, k.ev e, v.ev e with
    | some m, some key, some val => (mupS S kd m key val).map fun S' => (.tup [], S')
    | _, _, _ => none
  | .mkm => some (.map S.length, S ++ [.map [] [] 0])
  | .mm mx x y => match x.ev e, y.ev e with
    | some u, some v => (mmV mx u v).map fun r => (r, S)
    | _, _ => none
  | .mks sz bytes z l c => match l.ev e, c.ev e with
    | some (.int _ l), some (.int _ c) => mksS S sz bytes z l c
    | _, _ => none
  | .iaa n sz x i => match x.ev e, i.ev e with
    | some p, some (.int _ ix) => (iaaV n sz p ix).map fun r => (r, S)
    | _, _ => none
  | .cts x => (x.ev e).bind fun p => (ctsV S p).map fun r => (r, S)
  | .ctb x => match x.ev e with
    | some (.str s) => some (ctbV s, S)
    | _ => none
  | .rng x => (x.ev e).bind fun v => rngS S v
  | .nxt _ => none
  | .ent x => (x.ev e).bind fun v => (entS S v).map fun r => (r, S)
  | .del kd x k => match x.ev e, k.ev e with
    | some m, some key => (delS S kd m key).map fun S' => (.tup [], S')
    | _, _ => none
  | .wrap n x => (x.ev e).bind fun v => if v.size = n ∧ (v.cells.all V.flat) = true then some (.agg v.cells, S) else none
  | .ixa len sz kd x i => match x.ev e, i.ev e with
    | some v, some (.int _ ix) => if v.isAgg = true ∧ 0 ≤ ix ∧ ix < len then (v.part (ix.toNat * sz) kd).map fun r => (r, S) else none
    | _, _ => none

def ndX (e : Env) : X → List V
  | .eqn _ x => match x.ev e with
    | some (.sl _ []) => [.bool true, .bool false]
    | _ => []
  | _ => []

def X.tmps : X → List Nat
  | .eqs _ _ _ x y | .lkp _ _ _ x y | .mm _ x y | .mks _ _ _ x y | .iaa _ _ x y | .del _ x y | .ixa _ _ _ x y => x.tmps ++ y.tmps
  | .eqn _ x | .cts x | .ctb x | .rng x | .nxt x | .ent x | .wrap _ x => x.tmps
  | .mup _ x k v => x.tmps ++ k.tmps ++ v.tmps
  | .mkm => []

def X.writes : X → Bool
  | .mup .. | .mkm | .mks .. | .rng .. | .nxt .. | .del .. => true
  | _ => false
def X.reads : X → Bool
  | .mup .. | .mkm | .lkp .. | .mks .. | .cts .. | .rng .. | .nxt .. | .ent .. | .del .. => true
  | _ => false

def isNilSlice : Operand → Bool
  | .const (.slice none 0 0) => true
  | _ => false

def isU8 : Option TypeDesc → Bool
  | some (.int .u8) => true
  | _ => false
theorem isU8_spec {d : Option TypeDesc} (h : isU8 d = true) : d = some (.int .u8) := by
  unfold isU8 at h
  split at h
  · rfl
  · cases h

def compX (P : Program) (o : Oper) : Option X :=
  match o.op with
  | .binOp op t x y _ => match op == .eql || op == .neq with
    | false => none
    | true => match P.underlying t with
      | some (.struct _) => if P.eqGuardType P.depth t = true then none else match compEq P 10000 t, P.info? t, compOpd x, compOpd y with
        | some os, some i, some x, some y => some (.eqs (op == .neq) i.size os x y)
        | _, _, _, _ => none
      | some (.slice _) => if isNilSlice y = true then (compOpd x).map (.eqn (op == .neq)) else none
      | _ => none
  | .lookup t x k ok => match mapTy P t with
    | some (kd, _, et) => match P.info? et, compOpd x, compOpd k with
      | some i, some x, some k => i.zero.map fun z => .lkp kd (vOf z) ok x k
      | _, _, _ => none
    | none => none
  | .mapUpdate t m k x | .insert t m k x => match mapTy P t, compOpd m, compOpd k, compOpd x with
    | some (kd, _, _), some m, some k, some x => some (.mup kd m k x)
    | _, _, _, _ => none
  | .makeMap _ none => some .mkm
  | .makeSlice t l c => match P.underlying t with
    | some (.slice e) => match P.info? e, compOpd l, compOpd c with
      | some i, some l, some c => i.zero.map fun z => .mks i.size i.bytes (vOf z) l c
      | _, _, _ => none
    | _ => none
  | .indexAddr t x i => match arrTy P t, compOpd x, compOpd i with
    | some (n, sz), some x, some i => some (.iaa n sz x i)
    | _, _, _ => none
  | .convert src dst x => match P.underlying src, P.underlying dst, compOpd x with
    | some (.slice e), some .string, some x => if isU8 (P.underlying e) = true then some (.cts x) else none
    | some .string, some (.slice e), some x => if isU8 (P.underlying e) = true then some (.ctb x) else none
    | _, _, _ => none
  | .call c => match c.callee, c.args.toList.mapM compOpd with
    | .builtin .max, some [x, y] => some (.mm true x y)
    | .builtin .min, some [x, y] => some (.mm false x y)
    | .builtin .delete, some [x, y] => match c.argTypes[0]? with
      | some t => (mapTy P t).bind fun p => some (.del p.1 x y)
      | none => none
    | _, _ => none
  | .range t x => match mapTy P t, compOpd x with
    | some _, some x => some (.rng x)
    | _, _ => none
  | .next x false => (compOpd x).map .nxt
  | .entry x => (compOpd x).map .ent
  | .build t ps => match P.info? t, structParts P t with
    | some i, some l => match i.zero with
      | some z => match ps.toList with
        | [(j, x)] => match l[j]?, compOpd x with
          | some (0, n), some x => if z.cells.size = n then some (.wrap n x) else none
          | _, _ => none
        | _ => none
      | none => none
    | _, _ => none
  | .index t x i => match P.underlying t with
    | some (.array n e) => match P.info? e, loadKind P e, compOpd x, compOpd i with
      | some ei, some k, some x, some i => some (.ixa n ei.size k x i)
      | _, _, _, _ => none
    | _ => none
  | _ => none
end Go.Proofs.YtbifpocccfkhhaaGreatDoor
/- Operations, compiled: types and sizes are looked up once. -/
namespace Go.Proofs.YtbifpocccfkhhaaGreatDoor
open Go

inductive EqKd where
  | bool | ptr | func
  deriving DecidableEq, Inhabited

inductive K where
  | mv (x : Opd)
  | pick (c a b : Opd)
  | new (z : V)
  | box (x : Opd)
  | build (z : V) (ps : List (Nat × Nat × Nat × Opd))
  | bsl (sz : Nat) (xs : List Opd)
  | ld (k : Option Nat) (a : Opd)
  | sto (n : Nat) (a x : Opd)
  | nck (x : Opd)
  | bin (op : BinOp) (x y : Opd)
  | eq (kd : EqKd) (neg : Bool) (x y : Opd)
  | un (op : UnOp) (x : Opd)
  | fa (off : Nat) (x : Opd)
  | ia (sz : Nat) (x i : Opd)
  | idx (x i : Opd)
  | fld (off : Nat) (k : Option Nat) (x : Opd)
  | slc (s : Bool) (sz : Nat) (x : Opd) (lo hi : Option Opd)
  | ext (i : Nat) (x : Opd)
  | len (s : Bool) (x : Opd)
  | app (sz bytes : Nat) (d x : Opd)
  | mkf (k : FuncId) (fs cs : List Opd)
  | conv (k : IntKind) (x : Opd)
  | call (f : Opd) (args : List Opd)
  | ex (k : X)
  deriving Inhabited

def isTgt : V → Bool
  | .ptr .. => true
  | .iptr .. => true
  | .fn (.func _) _ _ => true
  | _ => false

def eqOk : EqKd → V → V → Bool
  | .bool, .bool _, .bool _ => true
  | .ptr, .nilp, .nilp | .ptr, .nilp, .ptr .. | .ptr, .nilp, .iptr .. | .ptr, .ptr .., .nilp | .ptr, .iptr .., .nilp => true
  | .func, .nilfn, .nilfn | .func, .nilfn, .fn .. | .func, .fn .., .nilfn => true
  | _, _, _ => false

/-- What an operation yields, and the store behind it. -/
def evK (e : Env) (S : St) : K → Option (V × St)
  | .mv x => (x.ev e).map fun v => (v, S)
  | .pick c a b => match c.ev e with
    | some (.bool t) => ((if t then a else b).ev e).map fun v => (v, S)
    | _ => none
  | .new z => boxS S z
  | .box x => (x.ev e).bind fun v => boxS S v
  | .build z ps => (evParts e ps).bind fun l => (buildV z (l.map fun p => p.2)).map fun v => (v, S)
  | .bsl sz xs => (evs e xs).bind fun l => if fits sz l = true ∧ l.length * sz ≤ 2 ^ 24 then some (.sl true l, S) else none
  | .ld k a => (a.ev e).bind fun p => (ldS S p k).map fun v => (v, S)
  | .sto n a x => match a.ev e, x.ev e with
    | some p, some v => (stS S p n v).map fun S' => (.tup [], S')
    | _, _ => none
  | .nck x => (x.ev e).bind fun v => if isTgt v = true then some (v, S) else none
  | .bin op x y => match x.ev e, y.ev e with
    | some u, some v => (binV op u v).map fun r => (r, S)
    | _, _ => none
  | .eq kd neg x y => match x.ev e, y.ev e with
    | some u, some v => if eqOk kd u v = true then (eqV u v).map fun b => (.bool (if neg then !b else b), S) else none
    | _, _ => none
  | .un op x => (x.ev e).bind fun v => (unV op v).map fun r => (r, S)
  | .fa off x => (x.ev e).bind fun v => (faV v off).map fun r => (r, S)
  | .ia sz x i => match x.ev e, i.ev e with
    | some p, some (.int _ ix) => (iaS S sz p ix).map fun r => (r, S)
    | _, _ => none
  | .idx x i => match x.ev e, i.ev e with
    | some (.str s), some (.int _ ix) => (idxV s ix).map fun r => (r, S)
    | _, _ => none
  | .fld off k x => (x.ev e).bind fun v => if v.isAgg = true then (v.part off k).map fun r => (r, S) else none
  | .slc s sz x lo hi => match x.ev e, evInt e lo, evInt e hi with
    | some d, some l, some h => match s, d with
      | true, .str b => (sliceS S sz (.str b) l h).map fun r => (r, S)
      | false, .sl .. | false, .arr .. => (sliceS S sz d l h).map fun r => (r, S)
      | _, _ => none
    | _, _, _ => none
  | .ext i x => match x.ev e with
    | some (.tup vs) => (vs[i]?).map fun r => (r, S)
    | _ => none
  | .len s x => (x.ev e).bind fun v => match s, v with
    | true, .str b => some (.int .i64 b.size, S)
    | false, .sl _ xs => some (.int .i64 xs.length, S)
    | false, .arr _ _ n _ => some (.int .i64 n, S)
    | _, _ => none
  | .app sz bytes d x => match d.ev e, x.ev e with
    | some u, some v => appS S sz bytes u v
    | _, _ => none
  | .mkf k fs cs => match evs e fs, evs e cs with
    | some us, some vs => some (.fn (.func k) us vs, S)
    | _, _ => none
  | .conv k x => match x.ev e with
    | some (.int _ n) => some (.int k (k.wrap n), S)
    | _ => none
  | .call _ _ => none
  | .ex k => evX e S k

/-! Compiling. -/
def compParts (P : Program) (t : TypeId) (ps : List (Nat × Operand)) : Option (List (Nat × Nat × Nat × Opd)) :=
  match structParts P t with
  | none => none
  | some l => ps.mapM fun (i, x) => match l[i]?, compOpd x with
    | some (o, n), some y => some (i, o, n, y)
    | _, _ => none

def inRow : Nat → List (Nat × Operand) → Bool
  | _, [] => true
  | k, (i, _) :: ps => i == k && inRow (k + 1) ps

def eqKd (P : Program) (t : TypeId) : Option EqKd :=
  match P.underlying t with
  | some .bool => some .bool
  | some (.pointer _) => some .ptr
  | some (.func ..) => some .func
  | _ => none

def isNum (P : Program) (t : TypeId) : Bool :=
  match P.underlying t with
  | some (.int _) => true
  | some .string => true
  | _ => false

def compOp0 (P : Program) (o : Oper) : Option K :=
  match o.op with
  | .move x | .assign x => (compOpd x).map .mv
  | .pick c a b => match compOpd c, compOpd a, compOpd b with
    | some c, some a, some b => some (.pick c a b)
    | _, _, _ => none
  | .alloc t => match P.info? t with
    | some i => match i.zero with
      | some z => some (.new (vOf z))
      | none => none
    | none => none
  | .box _ x => (compOpd x).map .box
  | .build t ps => match P.info? t with
    | some i => match i.zero with
      | some z => match vOf z, compParts P t ps.toList with
        | .agg cs, some l => if (l.all fun p => !(p.2.1 == 0 && p.2.2.1 == cs.length)) = true then some (.build (.agg cs) l) else none
        | _, _ => none
      | none => none
    | none => none
  | .buildSlice t n ps => match slTy P t, ps.toList.mapM fun p => compOpd p.2 with
    | some sz, some l => if n = ps.size ∧ inRow 0 ps.toList = true then some (.bsl sz l) else none
    | _, _ => none
  | .load t a => match loadKind P t, compOpd a with
    | some k, some a => some (.ld k a)
    | _, _ => none
  | .store t a x => match P.info? t, compOpd a, compOpd x with
    | some i, some a, some x => some (.sto i.size a x)
    | _, _, _ => none
  | .nilCheck x => (compOpd x).map .nck
  | .binOp op t x y _ => match compOpd x, compOpd y with
    | some x, some y => if isNum P t = true then some (.bin op x y) else match eqKd P t with
      | some kd => match op with
        | .eql => some (.eq kd false x y)
        | .neq => some (.eq kd true x y)
        | _ => none
      | none => none
    | _, _ => none
  | .unOp op _ x => (compOpd x).map (.un op)
  | .convert t d x => match P.underlying t, P.underlying d, compOpd x with
    | some _, some (.int k), some x => some (.conv k x)
    | _, _, _ => none
  | .fieldAddr t x f => match fieldOff P t f, compOpd x with
    | some off, some x => some (.fa off x)
    | _, _ => none
  | .field t x f => match fieldPart P t f, compOpd x with
    | some (off, k), some x => some (.fld off k x)
    | _, _ => none
  | .indexAddr t x i => match elemSize P t, compOpd x, compOpd i with
    | some sz, some x, some i => some (.ia sz x i)
    | _, _, _ => none
  | .index t x i => match P.underlying t, compOpd x, compOpd i with
    | some .string, some x, some i => some (.idx x i)
    | _, _, _ => none
  | .slice t x lo hi none => match compOpd x, (match lo with | none => some none | some y => (compOpd y).map some), (match hi with | none => some none | some y => (compOpd y).map some) with
    | some x, some lo, some hi => match P.underlying t with
      | some .string => some (.slc true 0 x lo hi)
      | _ => match elemSize P t with
        | some sz => some (.slc false sz x lo hi)
        | none => none
    | _, _, _ => none
  | .extract x i => (compOpd x).map (.ext i)
  | .makeFunc (.func k) fs cs => match fs.toList.mapM compOpd, cs.toList.mapM compOpd with
    | some fs, some cs => some (.mkf k fs cs)
    | _, _ => none
  | .call c => match c.callee, c.args.toList.mapM compOpd with
    | .value f, some args => (compOpd f).map fun f => .call f args
    | .builtin .len, some [x] => match c.argTypes[0]? with
      | some t => match P.underlying t with
        | some .string => some (.len true x)
        | some (.slice _) => some (.len false x)
        | _ => none
      | none => none
    | .builtin .append, some [d, x] => (appTy P c.argTypes).map fun p => .app p.1 p.2 d x
    | _, _ => none
  | _ => none

def compOp (P : Program) (o : Oper) : Option K :=
  match compOp0 P o with
  | some k => some k
  | none => (compX P o).map .ex

/-- What else an operation may yield: one of these. -/
def ndK (e : Env) : K → List V
  | .ex k => ndX e k
  | _ => []
end Go.Proofs.YtbifpocccfkhhaaGreatDoor
