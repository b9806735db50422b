/- CopyFresh: for every text and all names, in every laid world, the law returns true (its tied card). Conditions: none. -/
import Derived.Test.YtbifpocccfkhhaaGreatDoorMU0
import Derived.Test.YtbifpocccfkhhaaGreatDoorCards
import Derived.Test.YtbifpocccfkhhaaGreatDoorTie
import Derived.WalkKit
import Derived.ProofKit
import Derived.OpenShut
import Derived.SliceStrings
import Derived.Deep.DeepHandedRow
import Derived.Deep.DeepWitnessRowRef
import Derived.Lib.LaidTab
import Derived.Lib.Space
import Derived.ReadAgain
/- From a world to an abstract store and back. -/
namespace Go.Proofs.YtbifpocccfkhhaaGreatDoor
open Go Go.ChangeShapes Go.WideShapes Go.ChangeAt Go.RowKit

/-- Everything that lies in the world is given. -/
def E0 (W : World) : En := ⟨fun b o => W.cell? ⟨b, o, none⟩, fun _ _ => none⟩

theorem laid_tail {P : Program} {W : World} {x : String × DataW Unit} {l : List (String × DataW Unit)} (h : laidMet P (x :: l) W) : laidMet P l W := by
  obtain ⟨ps, hl, hn, hf⟩ := h
  obtain ⟨n, d⟩ := x
  obtain ⟨g, t, cs, fuel, p, q, h1, h2, h3, h4, h5, rfl⟩ := hl
  refine ⟨q, h5, ?_, fun b off hm => hf b off (List.mem_append_right _ hm)⟩
  exact (List.nodup_append.1 hn).2.1

theorem tab_cells {P : Program} {W : World} {name : String} {k : IntKind} {zs : List Int} {g : Nat} (hg : P.globalNamed name = some g) (h : Lib.TabIs P W name k zs) :
    ∃ t fz, W.heap[g]? = some (.cells (zs.map fun z => Value.int k z).toArray t fz) := by
  unfold Lib.TabIs World.var? at h
  rw [hg] at h
  simp only [Option.bind_some] at h
  split at h
  · rename_i cs t fz hh
    cases h
    exact ⟨t, fz, hh⟩
  · cases h

theorem gSp : Tryz.prog.globalNamed "strings.asciiSpace" = some 0 := by kernel_rfl
theorem gPow : Tryz.prog.globalNamed "internal/strconv.uint64pow10" = some 2 := by kernel_rfl
theorem gSpType : (Tryz.prog.globals[0]?).map (·.type) = some 228 := by kernel_rfl
theorem gPowType : (Tryz.prog.globals[2]?).map (·.type) = some 264 := by kernel_rfl
theorem sp_at : ∀ o, o < 256 → Lib.asciiSpaceTab.getD o 0 = (if o = 9 ∨ o = 10 ∨ o = 11 ∨ o = 12 ∨ o = 13 ∨ o = 32 then 1 else 0) := by decide +kernel
theorem sp_is : (Rows.laid_strings_asciiSpace : DataW Unit) = Lib.tabData .u8 Lib.asciiSpaceTab := by kernel_rfl
theorem pow_is : (Rows.laid_internal_strconv_uint64pow10 : DataW Unit) = Lib.tabData .u64 Lib.pow10Tab := by kernel_rfl

/-- The world before the call, in the words of the logic. -/
theorem SR.start {W : World} (h : laidMetH Tryz.prog Rows.copyFreshRow.laid W) : SR (E0 W) [] W := by
  have h0 : laidMet Tryz.prog [("math/bits.deBruijn32tab", Rows.laid_math_bits_deBruijn32tab), ("math/bits.deBruijn64tab", Rows.laid_math_bits_deBruijn64tab), ("internal/strconv.uint64pow10", Rows.laid_internal_strconv_uint64pow10), ("unicode.White_Space", Rows.laid_unicode_White_Space), ("strings.asciiSpace", Rows.laid_strings_asciiSpace)] W := h
  have h3 := laid_tail (laid_tail h0)
  have h5 := laid_tail (laid_tail h3)
  rw [pow_is] at h3
  rw [sp_is] at h5
  have t1 : Lib.TabIs Tryz.prog W "strings.asciiSpace" .u8 Lib.asciiSpaceTab := Lib.tabIs_of_head gSp gSpType Tryz.underlying228 (by kernel_rfl) (by kernel_rfl) (by kernel_rfl) h5
  have t2 : Lib.TabIs Tryz.prog W "internal/strconv.uint64pow10" .u64 Lib.pow10Tab := Lib.tabIs_of_head gPow gPowType Tryz.underlying264 (by kernel_rfl) (by kernel_rfl) (by kernel_rfl) h3
  refine ⟨⟨fun g o k n hg => ?_, fun g cs hg => ?_⟩, fun b o c h => h, fun l o h => by simp at h, fun l st x h => by simp [E0] at h, fun b o ⟨l, st, x, _, h, _⟩ => by simp [E0] at h, fun b ⟨l, st, x, _, h, _⟩ => by simp [E0] at h, fun l l' st st' x x' _ _ h => by simp [E0] at h⟩
  · unfold globN at hg
    split at hg
    · rename_i hc
      obtain ⟨rfl, ho⟩ := hc
      cases hg
      have := t1.cell gSp o (by rw [Lib.asciiSpaceTab_length]; exact ho)
      rw [sp_at o ho] at this
      exact this
    · split at hg
      · rename_i hc
        obtain ⟨rfl, ho⟩ := hc
        cases hg
        have := t2.cell gPow o (by rw [Lib.pow10Tab_length]; exact ho)
        rw [Lib.pow10Tab_at o ho] at this
        exact_mod_cast this
      · cases hg
  · unfold globB at hg
    split at hg
    · rename_i hc
      subst hc
      cases hg
      obtain ⟨t2, f2, g2⟩ := tab_cells gPow t2
      refine ⟨t2, f2, ?_⟩
      rw [g2]
      simp [Lib.pow10Tab, List.map_map, Function.comp]
    · cases hg

theorem own_none {W : World} {b : Nat} : ¬ own (E0 W) [] b := fun ⟨l, st, x, _, h, _⟩ => by simp [E0] at h
theorem kept_of {n : Nat} {W W' : World} {E' : En} {S' : St} (h : Ext n (E0 W) [] W E' S' W') (may : MemPlace → Prop) : W.keptBut W' may := by
  have ho := h.out
  simp only [Prod.mk.injEq] at ho
  refine ⟨ho.2, ho.1, fun i hi => ?_⟩
  have := h.frame i hi own_none
  rw [this]
  cases hh : W.heap[i]? with
  | none => trivial
  | some o => cases o <;> simp
theorem same_of {n : Nat} {W W' : World} {E' : En} {S' : St} (h : Ext n (E0 W) [] W E' S' W') {p : MemPlace} (hp : p.block < W.heap.size) : W.sameAt W' p := by
  have hb := h.frame p.block hp own_none
  cases p with
  | cell b o => exact cell?_heap hb
  | map b => exact hb

theorem carryAll {H : Type} {enc : TypeId × Value → H} {P : Program} {w w' : World} {sp : Nat → Bool} : ∀ {ts : List TypeId} {vs : List Value} {ds : List (DataW H)} {ps : List MemPlace}, DataW.TrodAll enc P w 0 sp true ts vs ds ps → (∀ p ∈ ps, w.sameAt w' p) → DataW.TrodAll enc P w' 0 sp true ts vs ds ps
  | [], [], [], _, h, _ => h
  | _ :: _, _ :: _, _ :: _, _, ⟨p, q, ⟨n, h1⟩, h2, e⟩, hs => ⟨p, q, ⟨n, DataW.trod_carry n _ _ _ h1 fun x hx => hs x (by rw [e]; exact List.mem_append_left _ hx)⟩, carryAll h2 (fun x hx => hs x (by rw [e]; exact List.mem_append_right _ hx)), e⟩

theorem kids : Kids Tryz.prog (· < Tryz.prog.types.size) := kids_rows (by kernel_rfl) (by kernel_rfl)
theorem full : ∀ t e, t < Tryz.prog.types.size → Tryz.prog.underlying t = some (.slice e) → 0 < Tryz.prog.cellsOf e := slices_full_of Tryz.prog (by kernel_rfl)

/-- A law that returns true, whatever it is given: from its contract to its row's. -/
theorem law_of {H : Type} {enc : TypeId × Value → H} {k : Nat} {f : Func} {s : ChangeSpec} {W : World} {args : Array Value} {ds gs : List (DataW H)} {before : List MemPlace} {vs : List V}
    (hspec : Fn Tryz.prog k vs [] (.bool true)) (hs : SR (E0 W) [] W) (hv : VRs (E0 W) vs args) (hty : f.params.toList.all (fun t => decide (t < Tryz.prog.types.size)) = true) (hres : f.resultTypes = #[4])
    (hvars : s.vars = []) (hW : DataW.Whole enc Tryz.prog f.params.toList s.vars false W args.toList ds gs before)
    (hfn : s.fn H (ds ++ gs) = { results := [.lit (.bool true)], args := ds ++ gs }) :
    Calls Tryz.prog k args W fun e W' => ∃ v, e = .returned v ∧ s.post enc Tryz.prog f false true false false W args v W' := by
  have hc := callsIn_wide.1 (hspec.2 (E0 W) W args 0 hs hv)
  refine hc.mono ?_
  rintro e W' ⟨u, r, E', S', rfl, ⟨rfl, rfl⟩, hr, hs', hx, _⟩
  cases hr
  have hW' := hW
  obtain ⟨p, q, hA, hV, hb, hz, hn⟩ := hW
  rw [hvars] at hV
  obtain ⟨rfl, rfl⟩ := trodVars_none hV
  rw [List.append_nil] at hb
  subst hb
  rw [List.append_nil] at hfn
  refine ⟨_, rfl, ds, [], before, [], before, [], hW', ?_, ?_, ?_, kept_of hx _, fun h => by cases h⟩
  · rw [List.append_nil, hfn, hres]
    exact trodAll_cons_mk (shut_bool Tryz.underlying4 _) trodAll_mk0
  · rw [List.append_nil, hfn]
    have hlt : ∀ p ∈ before, p.block < W.heap.size := fun p hp => hW'.lt p hp
    refine carryAll (DataW.TrodAll.respare kids full (fun t ht => ?_) hA fun p hp => by simpa using hlt p hp) fun p hp => same_of hx (hlt p hp)
    have := List.all_eq_true.1 hty t ht
    simpa using this
  · rw [List.append_nil, hfn, hvars]
    rfl
end Go.Proofs.YtbifpocccfkhhaaGreatDoor
/- CopyFresh: the row and its card. -/
namespace Go.Proofs.YtbifpocccfkhhaaGreatDoor.copyFresh
open Go Go.ChangeShapes Go.WideShapes Go.ChangeAt Go.RowKit

set_option maxRecDepth 100000
theorem own : ownKnob Tryz.prog.godebug = none := by kernel_rfl
theorem cells9 : Tryz.prog.cellsOf 9 = 1 := by kernel_rfl

/-- A list of strings that came in. -/
theorem strings_in {H : Type} {enc : TypeId × Value → H} {W : World} {base : Nat} {v : Value} {d : DataW H} {p : List MemPlace} (hval : Value.okWide Tryz.prog W .any base 22 v) (h : DataW.Trod enc Tryz.prog W 0 (fun _ => true) true 22 v d p) :
    ∃ taken : List ByteArray, VR (E0 W) (.sl false (taken.map .str)) v := by
  obtain ⟨a0, len, cap, rfl⟩ := okWide_slice Tryz.underlying22 hval
  obtain ⟨fuel, hf⟩ := h
  rcases open_strings Tryz.underlying22 Tryz.underlying9 cells9 hf with ⟨hcs, _⟩ | ⟨a, len', cap', ss, hcs, _, hl, _, hlen, _, hcell, _⟩
  · simp [Value.cells] at hcs
    obtain ⟨rfl, rfl, rfl⟩ := hcs
    exact ⟨[], .slnil _⟩
  · simp [Value.cells] at hcs
    obtain ⟨rfl, rfl, rfl⟩ := hcs
    simp only [if_true] at hlen
    have hspot : a.spot = none := by
      simp only [Value.okWide, Tryz.underlying22, Cell.okWide, Cell.ok, World.has] at hval
      exact hval.2.2.2.1
    obtain ⟨b, o, spot⟩ := a
    simp only at hspot
    subst hspot
    have hcell' : ∀ i, i < ss.length → W.cell? ⟨b, o + i, none⟩ = some (.string (ss.getD i ByteArray.empty)) := fun i hi => by
      have := hcell i hi
      unfold Addr.add at this
      split at this
      · rename_i h0; subst h0; exact this
      · exact this
    refine ⟨ss.take len, ?_⟩
    have hlt : ((ss.take len).map V.str).length = len := by simp; omega
    have := @VR.sl (E0 W) false ((ss.take len).map V.str) b o cap 1 (by rw [hlt]; exact hl) (fun h => by cases h) (fun v hv => ?_) (fun i j hi hj => ?_) (fun i v j c' c hv hc hI => ?_)
    · rw [hlt] at this; exact this
    · obtain ⟨x, _, rfl⟩ := List.mem_map.1 hv; rfl
    · rw [hlt] at hi
      obtain rfl : j = 0 := by omega
      simp only [E0, Nat.mul_one, Nat.add_zero]
      rw [hcell' i (by omega)]; rfl
    · simp only [List.getElem?_map, Option.map_eq_some_iff] at hv
      obtain ⟨x, hx, rfl⟩ := hv
      have hj : j = 0 := by
        have := (List.getElem?_eq_some_iff.1 hc).1
        simp [V.cells] at this; exact this
      subst hj
      simp [V.cells] at hc
      subst hc
      rw [List.getElem?_take] at hx
      split at hx
      · rename_i hi
        have hi' : i < ss.length := (List.getElem?_eq_some_iff.1 hx).1
        simp only [E0, Nat.mul_one, Nat.add_zero] at hI
        rw [hcell' i hi'] at hI
        cases hI
        rw [List.getD_eq_getElem?_getD, hx]
        exact .str _
      · cases hx

theorem contract (H : Type) (enc : TypeId × Value → H) (W : World) (base : Nat) (args : Array Value) (ds gs : List (DataW H)) (before : List MemPlace)
    (hval : ∀ (j : Nat) t v, Tryz.f13.params[j]? = some t → args[j]? = some v → Value.okWide Tryz.prog W .any base t v)
    (hW : DataW.Whole enc Tryz.prog Tryz.f13.params.toList Rows.copyFreshSpec.vars false W args.toList ds gs before) (hL : laidMetH Tryz.prog Rows.copyFreshRow.laid W) :
    Calls Tryz.prog 13 args W fun e W' => ∃ v, e = .returned v ∧ Rows.copyFreshSpec.post enc Tryz.prog Tryz.f13 false true false false W args v W' := by
  have hW' := hW
  obtain ⟨p, q, hA0, hV, rfl, hfz, hnd⟩ := hW
  have hA : DataW.TrodAll enc Tryz.prog W 0 (fun _ => true) true Tryz.f13.params.toList args.toList ds p := hA0
  rw [Tryz.params13] at hA hval
  obtain ⟨v0, v1, d0, d1, p0, p1, rfl, rfl, rfl, h0, h1⟩ := trodAll_two hA
  obtain ⟨rfl, rfl⟩ := trodVars_none hV
  obtain ⟨s, rfl, _⟩ := ChangeMaps.open_string Tryz.underlying9 (hval 0 9 v0 rfl rfl) h0
  obtain ⟨taken, ht⟩ := strings_in (hval 1 22 v1 rfl rfl) h1
  refine law_of (spec13 false s taken) (SR.start hL) ⟨rfl, fun i v u hv hu => ?_⟩ (by kernel_rfl) rfl rfl hW' rfl
  match i, hv, hu with
  | 0, hv, hu => cases hv; cases hu; exact .str s
  | 1, hv, hu => cases hv; cases hu; exact ht

/-- A WORLD FOR THE WITNESS: the settled one with two blocks more (unicode.White_Space's ranges; its RangeTable), the five variables holding what their initialisers lay. -/
noncomputable def laidWorld (os : Os) : World :=
  let N := (World.settled Tryz.prog os).heap.size
  let w0 := World.holding Tryz.prog os ⟨#[.cells (#[9, 13, 1, 32, 133, 101, 160, 5760, 5600, 8192, 8202, 1, 8232, 8233, 1, 8239, 8287, 48, 12288, 12288, 1].map fun (z : Nat) => Value.int .u16 (z : Int)) 279, .cells #[.slice (some ⟨N, 0, none⟩) 7 7, .slice none 0 0, .int .i64 2] 276], #[], []⟩
  let put (h : Array Obj) (g : Nat) (cs : Array Value) : Array Obj := h.modify g fun
    | .cells _ t frozen => .cells cs t frozen
    | o => o
  let h1 := put w0.heap 0 (Lib.asciiSpaceTab.map fun z => Value.int .u8 z).toArray
  let h2 := put h1 1 #[.pointer (some ⟨N + 1, 0, none⟩)]
  let h3 := put h2 2 (Lib.pow10Tab.map fun z => Value.int .u64 z).toArray
  let h4 := put h3 3 (#[0, 1, 28, 2, 29, 14, 24, 3, 30, 22, 20, 15, 25, 17, 4, 8, 31, 27, 13, 23, 21, 19, 16, 7, 26, 12, 18, 6, 11, 5, 10, 9].map fun (z : Nat) => Value.int .u8 (z : Int))
  let h5 := put h4 4 (#[0, 1, 56, 2, 57, 49, 28, 3, 61, 58, 42, 50, 38, 29, 17, 4, 62, 47, 59, 36, 45, 43, 51, 22, 53, 39, 33, 30, 24, 18, 12, 5, 63, 55, 48, 27, 60, 41, 37, 16, 46, 35, 44, 21, 52, 32, 23, 11, 54, 26, 40, 15, 34, 20, 31, 10, 25, 14, 19, 9, 13, 8, 7, 6].map fun (z : Nat) => Value.int .u8 (z : Int))
  { w0 with heap := h5 }
def wArgs : Array Value := #[.string ⟨#[]⟩, .slice none 0 0]
theorem laid_met (os : Os) : laidMet Tryz.prog Rows.copyFreshRow.laid ((laidWorld os).forCall (fun _ _ => 0) ⟨#[], wArgs, []⟩).memory :=
  laidMet_of_run' 10 (by kernel_rfl) (by kernel_rfl)
theorem reads (os : Os) {H : Type} (enc : TypeId × Value → H) : ∃ places, DataW.whole enc Tryz.prog ((laidWorld os).forCall (fun _ _ => 0) ⟨#[], wArgs, []⟩).memory Tryz.f13.params.toList Rows.copyFreshSpec.vars false wArgs.toList 8 = some ([.lit (.string []), .nil], [], places) :=
  ⟨[], by kernel_rfl⟩

theorem lifted (os : Os) (started : os.Started) (H : Type) (enc : TypeId × Value → H) (F : Stop.Interp) :
    ReturnsInHanded {} Tryz.checked os 13 .any ((OpenSpec.ofChange Rows.copyFreshSpec).preRow enc Tryz.prog Tryz.f13 Rows.copyFreshRow.domain false Rows.copyFreshRow.laid) (((OpenSpec.ofChange Rows.copyFreshSpec).at F).post enc Tryz.prog Tryz.f13 false true false false) := by
  obtain ⟨places, hx⟩ := reads os enc
  refine returnsInHanded_of_row (C := Tryz.checked) (s := OpenSpec.ofChange Rows.copyFreshSpec) own started (by kernel_rfl) Tryz.func13
    (witness_row_atRef (enc := enc) (C := Tryz.checked) false (laidWorld os) wArgs rfl (by kernel_rfl) (by kernel_rfl) (by kernel_rfl)
      (OpenSpec.preRow_of_cond 8 hx (by kernel_rfl) (fun k hk => by cases hk) (by kernel_rfl) (laid_met os))) ?_
  intro W base args ds gs before hval hW _ _ _ hL _ _
  exact contract H enc W base args ds gs before hval hW hL

theorem andT {a b : Bool} (ha : a = true) (hb : b = true) : (a && b) = true := by rw [ha, hb]; rfl
theorem fact1 : Rows.copyFreshRow.wf (OpenSpec.ofChange (OpenSpec.ofChange Rows.copyFreshSpec).bare) = true := by kernel_rfl
theorem fact2 : laidOutB Tryz.prog = true := by kernel_rfl
theorem fact3 : mapsRowed Tryz.prog = true := by kernel_rfl
theorem fact4 : Tryz.f13.params.all (Tryz.prog.readableRec ·) = true := by kernel_rfl
theorem fact5 : namedTie Tryz.prog Rows.copyFreshRow.named (OpenSpec.ofChange Rows.copyFreshSpec).bare.vars = true := by kernel_rfl
theorem fact6 : (Rows.copyFreshRow.stops == []) = true := by kernel_rfl
theorem fact7 : (Tryz.prog.stops == []) = true := by kernel_rfl
theorem fact8 : (Rows.copyFreshRow.knobs == []) = true := by kernel_rfl
theorem fact9 : (Tryz.prog.stopKnobs == []) = true := by kernel_rfl
theorem fact10 : (Rows.copyFreshRow.inPlace == Tryz.prog.inPlace 13) = true := by kernel_rfl
theorem fact11 : (Rows.copyFreshRow.unfollowed == Tryz.prog.unfollowed 13) = true := by kernel_rfl
theorem fact12 : (Rows.copyFreshRow.recurses == Tryz.prog.recurses 13) = true := by kernel_rfl
theorem fact13 : (Rows.copyFreshRow.named == Tryz.prog.varsNamed 13) = true := by kernel_rfl
theorem fact14 : (Rows.copyFreshRow.maps == (Tryz.f13.params.toList ++ (OpenSpec.ofChange Rows.copyFreshSpec).bare.plain.varTypes Tryz.prog).any (Tryz.prog.mapsRec ·)) = true := by kernel_rfl
theorem fact15 : (Rows.copyFreshRow.ifaces == (Tryz.f13.params.toList ++ (OpenSpec.ofChange Rows.copyFreshSpec).bare.plain.varTypes Tryz.prog).any (Tryz.prog.ifacesRec ·)) = true := by kernel_rfl
theorem fact16 : (Rows.copyFreshRow.mapsOut == Tryz.prog.mapsAmong Tryz.f13.resultTypes.toList) = true := by kernel_rfl
theorem fact17 : (Rows.copyFreshRow.loops == (Tryz.f13.params.toList ++ (OpenSpec.ofChange Rows.copyFreshSpec).bare.plain.varTypes Tryz.prog).any (Tryz.prog.loopsFrom ·)) = true := by kernel_rfl
theorem fact18 : (Rows.copyFreshRow.wideKeys == ((Tryz.f13.params.toList ++ (OpenSpec.ofChange Rows.copyFreshSpec).bare.plain.varTypes Tryz.prog) ++ Tryz.f13.resultTypes.toList).any (Tryz.prog.wideKeysFrom ·)) = true := by kernel_rfl
theorem fact19 : (OpenSpec.ofChange Rows.copyFreshSpec).bare.vars.all (Tryz.prog.varReadable ·) = true := by kernel_rfl
theorem fact20 : Tryz.f13.resultTypes.all (fun t => Tryz.prog.readableRec t && decide (t < Tryz.prog.types.size)) = true := by kernel_rfl
theorem fact21 : (Rows.copyFreshRow.ifacesOut == Tryz.f13.resultTypes.toList.any (Tryz.prog.ifacesRec ·)) = true := by kernel_rfl
theorem fact22 : (Rows.copyFreshRow.loopsOut == Tryz.f13.resultTypes.toList.any (Tryz.prog.loopsFrom ·)) = true := by kernel_rfl
theorem fact23 : (Rows.copyFreshRow.plainKeys == Tryz.prog.plainKeys) = true := by kernel_rfl
theorem fact24 : Rows.copyFreshRow.shortTexts.isNone = true := by kernel_rfl
theorem fact25 : Tryz.prog.stopsHeard = true := by kernel_rfl
theorem fact26 : Tryz.prog.mayEnter = true := by kernel_rfl
theorem fact27 : (Rows.copyFreshRow.lifted == Tryz.prog.liftsFinal) = true := by kernel_rfl
theorem fact28 : (Tryz.prog.make == some Rows.copyFreshRow.make) = true := by kernel_rfl
theorem fact29 : (Rows.copyFreshRow.kinds == (if Rows.copyFreshRow.domain.isEmpty then [] else Tryz.f13.params.toList.map fun t => match Tryz.prog.underlying t with | some (.int k) => some k | _ => none)) = true := by kernel_rfl
theorem fact30 : (Rows.copyFreshRow.pinned == Rows.copyFreshRow.pinnedBy) = true := by kernel_rfl
theorem fact31 : (Rows.copyFreshRow.veiled == ((Tryz.f13.params.toList ++ (OpenSpec.ofChange Rows.copyFreshSpec).bare.plain.varTypes Tryz.prog) ++ Tryz.f13.resultTypes.toList).any (Tryz.prog.veiledRec ·)) = true := by kernel_rfl
theorem fact32 : Rows.copyFreshRow.veiledFits Tryz.prog Tryz.f13.params.toList ((Tryz.f13.params.toList ++ (OpenSpec.ofChange Rows.copyFreshSpec).bare.plain.varTypes Tryz.prog) ++ Tryz.f13.resultTypes.toList) = true := by kernel_rfl
theorem facts : joinedFacts Tryz.pinned.checked.prog 13 Tryz.f13 (OpenSpec.ofChange Rows.copyFreshSpec).bare Rows.copyFreshRow = true := (andT (andT (andT (andT (andT (andT (andT (andT (andT (andT (andT (andT (andT (andT (andT (andT (andT (andT (andT (andT (andT (andT (andT (andT (andT (andT (andT (andT (andT (andT (andT fact1 fact2) fact3) fact4) fact5) fact6) fact7) fact8) fact9) fact10) fact11) fact12) fact13) fact14) fact15) fact16) fact17) fact18) fact19) fact20) fact21) fact22) fact23) fact24) fact25) fact26) fact27) fact28) fact29) fact30) fact31) fact32)
theorem name13 : Tryz.pinned.checked.prog.funcNamed Rows.copyFreshRow.func = some 13 := by kernel_rfl
theorem inst13 : Tryz.f13.isInstance Tryz.pinned.checked.prog Rows.copyFreshRow.origin Rows.copyFreshRow.targs := of_decide_eq_true (by kernel_rfl)
theorem wrap13 : Tryz.f13.isWrapper Tryz.pinned.checked.prog Rows.copyFreshRow.wrapper Rows.copyFreshRow.mainSum := by unfold Func.isWrapper; first | (rw [if_pos (by decide +kernel)]; kernel_rfl) | (rw [if_neg (by decide +kernel)]; exact ⟨rfl, rfl⟩)
theorem said : Rows.CopyFreshSaid :=
  OpenClaim.holds_of_cond 13 Tryz.f13 rfl rfl rfl rfl rfl rfl rfl ⟨rfl, rfl, rfl, rfl, rfl⟩ rfl rfl rfl rfl rfl name13 Tryz.func13 facts inst13 wrap13
    (fun os started H enc _ F => by rw [OpenClaim.pre_eq_preRow]; exact lifted os started H enc F)

theorem looksT : false = Tryz.pinned.checked.prog.looks [] := by kernel_rfl
theorem stand9 : Tryz.prog.wantsStandIn 9 = false := by kernel_rfl
theorem stand22 : Tryz.prog.wantsStandIn 22 = false := by kernel_rfl
theorem named13 : Tryz.prog.funcNamed "manorboy/manorboylaw09.CopyFresh" = some 13 := by kernel_rfl
theorem plain (f : FuncId) (fn : Func) (hf : Tryz.pinned.checked.prog.funcNamed "manorboy/manorboylaw09.CopyFresh" = some f) (hfn : Tryz.pinned.checked.prog.funcs[f]? = some fn) :
    false = Tryz.pinned.checked.prog.looks [] ∧ ∀ (j : Nat) t, fn.params[j]? = some t → Tryz.pinned.checked.prog.wantsStandIn t = false := by
  obtain rfl : f = 13 := Option.some.inj (named13.symm.trans hf) |>.symm
  obtain rfl : fn = Tryz.f13 := (Option.some.inj (Tryz.func13.symm.trans hfn)).symm
  refine ⟨looksT, fun j t ht => ?_⟩
  rw [Tryz.params13] at ht
  have : t = 9 ∨ t = 22 := by simpa using Array.mem_of_getElem? ht
  rcases this with rfl | rfl
  · exact stand9
  · exact stand22

theorem wfText : Rows.copyFreshRow.wfByText (OpenSpec.ofChange Rows.copyFreshSpec) = true := by kernel_rfl
theorem mainT : Tryz.pinned.checked.prog.mainIs = some (Rows.copyFreshCard.stood.harness.1, Rows.copyFreshCard.stood.harness.2.toList) := by kernel_rfl
theorem goesT : false = Rows.copyFreshRow.goesBy Tryz.pinned.checked.prog := by kernel_rfl
theorem card : Rows.CopyFreshCardSaid :=
  Claim7.holds_tied_plain_at .later [] _ _ _ _ said (fun _ h => by cases h) wfText (fun _ h => by cases h) copyFresh_row_tie rfl ⟨rfl, rfl⟩ mainT rfl plain goesT
end Go.Proofs.YtbifpocccfkhhaaGreatDoor.copyFresh
namespace Go.Proofs.YtbifpocccfkhhaaGreatDoor
/-- CopyFresh: its tied card. -/
theorem copyFresh_holds : Rows.CopyFreshCardSaid := copyFresh.card
end Go.Proofs.YtbifpocccfkhhaaGreatDoor
