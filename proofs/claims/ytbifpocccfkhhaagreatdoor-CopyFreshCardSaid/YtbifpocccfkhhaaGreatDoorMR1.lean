/- Runs on known values. -/
import Derived.Test.YtbifpocccfkhhaaGreatDoorMFT
namespace Go.Proofs.YtbifpocccfkhhaaGreatDoor
open Go
set_option maxRecDepth 20000
noncomputable def prs0 : List Pr := []
theorem prs0_ok : ∀ p, p ∈ prs0 → p.ok Tryz.prog := fun p hp => by cases hp
-- manorboy/manorboylaw09.example
noncomputable def pr1 : Pr := ⟨53, [(.str ⟨⟨[120]⟩⟩), (.str ⟨⟨[108]⟩⟩), (.agg [(.int .i64 6), (.int .i64 0), (.int .i64 0), (.int .i64 0), (.int .i64 0), (.str ⟨⟨[121]⟩⟩), (.sl true [])]), (.agg [(.int .i64 6), (.int .i64 0), (.int .i64 0), (.int .i64 0), (.int .i64 0), (.str ⟨⟨[122]⟩⟩), (.sl true [])])], (.agg [(.sl true []), (.int .i64 7), (.str ⟨⟨[]⟩⟩), (.sl true []), (.sl true []), (.sl true []), (.sl true [(.agg [(.int .i64 1), (.bool false), (.int .i64 1), (.sl true [(.str ⟨⟨[120]⟩⟩)]), (.sl true []), (.sl true []), (.sl true [])])]), (.sl true [(.agg [(.sl true []), (.int .i64 2), (.str ⟨⟨[]⟩⟩), (.sl true [(.agg [(.int .i64 6), (.int .i64 0), (.int .i64 0), (.int .i64 0), (.int .i64 0), (.str ⟨⟨[120]⟩⟩), (.sl true [])])]), (.sl true [(.agg [(.int .i64 6), (.int .i64 0), (.int .i64 0), (.int .i64 0), (.int .i64 0), (.str ⟨⟨[121]⟩⟩), (.sl true [])])]), (.sl true []), (.sl true []), (.sl true [])]), (.agg [(.sl true [(.str ⟨⟨[108]⟩⟩)]), (.int .i64 8), (.str ⟨⟨[]⟩⟩), (.sl true []), (.sl true []), (.sl true []), (.sl true []), (.sl true [(.agg [(.sl true []), (.int .i64 2), (.str ⟨⟨[]⟩⟩), (.sl true [(.agg [(.int .i64 6), (.int .i64 0), (.int .i64 0), (.int .i64 0), (.int .i64 0), (.str ⟨⟨[120]⟩⟩), (.sl true [])])]), (.sl true [(.agg [(.int .i64 10), (.int .i64 3), (.int .i64 0), (.int .i64 0), (.int .i64 0), (.str ⟨⟨[]⟩⟩), (.sl true [(.agg [(.int .i64 6), (.int .i64 0), (.int .i64 0), (.int .i64 0), (.int .i64 0), (.str ⟨⟨[120]⟩⟩), (.sl true [])]), (.agg [(.int .i64 6), (.int .i64 0), (.int .i64 0), (.int .i64 0), (.int .i64 0), (.str ⟨⟨[122]⟩⟩), (.sl true [])])])])]), (.sl true []), (.sl true []), (.sl true [])]), (.agg [(.sl true []), (.int .i64 3), (.str ⟨⟨[]⟩⟩), (.sl true []), (.sl true [(.agg [(.int .i64 6), (.int .i64 0), (.int .i64 0), (.int .i64 0), (.int .i64 0), (.str ⟨⟨[108]⟩⟩), (.sl true [])])]), (.sl true []), (.sl true []), (.sl true [])])])])])])⟩
theorem pr1_ok : pr1.ok Tryz.prog := Pr.run (TT_ok prs0_ok) 200 (by decide +kernel)
noncomputable def prs1 : List Pr := pr1 :: prs0
theorem prs1_ok : ∀ p, p ∈ prs1 → p.ok Tryz.prog := prs_cons pr1_ok prs0_ok
-- manorboy/lex.Words
noncomputable def pr2 : Pr := ⟨153, [], (.sl false [(.str ⟨⟨[98, 101, 103, 105, 110]⟩⟩), (.str ⟨⟨[101, 110, 100]⟩⟩), (.str ⟨⟨[105, 102]⟩⟩), (.str ⟨⟨[116, 104, 101, 110]⟩⟩), (.str ⟨⟨[101, 108, 115, 101]⟩⟩), (.str ⟨⟨[102, 111, 114]⟩⟩), (.str ⟨⟨[100, 111]⟩⟩), (.str ⟨⟨[115, 116, 101, 112]⟩⟩), (.str ⟨⟨[117, 110, 116, 105, 108]⟩⟩), (.str ⟨⟨[119, 104, 105, 108, 101]⟩⟩), (.str ⟨⟨[103, 111, 116, 111]⟩⟩), (.str ⟨⟨[111, 119, 110]⟩⟩), (.str ⟨⟨[105, 110, 116, 101, 103, 101, 114]⟩⟩), (.str ⟨⟨[114, 101, 97, 108]⟩⟩), (.str ⟨⟨[98, 111, 111, 108, 101, 97, 110]⟩⟩), (.str ⟨⟨[97, 114, 114, 97, 121]⟩⟩), (.str ⟨⟨[115, 119, 105, 116, 99, 104]⟩⟩), (.str ⟨⟨[112, 114, 111, 99, 101, 100, 117, 114, 101]⟩⟩), (.str ⟨⟨[118, 97, 108, 117, 101]⟩⟩), (.str ⟨⟨[108, 97, 98, 101, 108]⟩⟩), (.str ⟨⟨[115, 116, 114, 105, 110, 103]⟩⟩), (.str ⟨⟨[116, 114, 117, 101]⟩⟩), (.str ⟨⟨[102, 97, 108, 115, 101]⟩⟩), (.str ⟨⟨[99, 111, 109, 109, 101, 110, 116]⟩⟩), (.str ⟨⟨[110, 111, 116]⟩⟩), (.str ⟨⟨[97, 110, 100]⟩⟩), (.str ⟨⟨[111, 114]⟩⟩), (.str ⟨⟨[105, 109, 112]⟩⟩), (.str ⟨⟨[101, 113, 118]⟩⟩)])⟩
theorem pr2_ok : pr2.ok Tryz.prog := Pr.run (TT_ok prs1_ok) 200 (by decide +kernel)
noncomputable def prs2 : List Pr := pr2 :: prs1
theorem prs2_ok : ∀ p, p ∈ prs2 → p.ok Tryz.prog := prs_cons pr2_ok prs1_ok
-- manorboy/lex.IsName
noncomputable def pr3 : Pr := ⟨57, [(.str ⟨⟨[120]⟩⟩)], (.bool true)⟩
theorem pr3_ok : pr3.ok Tryz.prog := Pr.run (TT_ok prs2_ok) 200 (by decide +kernel)
noncomputable def prs3 : List Pr := pr3 :: prs2
theorem prs3_ok : ∀ p, p ∈ prs3 → p.ok Tryz.prog := prs_cons pr3_ok prs2_ok
-- manorboy/lex.IsName
noncomputable def pr4 : Pr := ⟨57, [(.str ⟨⟨[121]⟩⟩)], (.bool true)⟩
theorem pr4_ok : pr4.ok Tryz.prog := Pr.run (TT_ok prs3_ok) 200 (by decide +kernel)
noncomputable def prs4 : List Pr := pr4 :: prs3
theorem prs4_ok : ∀ p, p ∈ prs4 → p.ok Tryz.prog := prs_cons pr4_ok prs3_ok
-- manorboy/lex.IsName
noncomputable def pr5 : Pr := ⟨57, [(.str ⟨⟨[108]⟩⟩)], (.bool true)⟩
theorem pr5_ok : pr5.ok Tryz.prog := Pr.run (TT_ok prs4_ok) 200 (by decide +kernel)
noncomputable def prs5 : List Pr := pr5 :: prs4
theorem prs5_ok : ∀ p, p ∈ prs5 → p.ok Tryz.prog := prs_cons pr5_ok prs4_ok
-- manorboy/lex.IsName
noncomputable def pr6 : Pr := ⟨57, [(.str ⟨⟨[122]⟩⟩)], (.bool true)⟩
theorem pr6_ok : pr6.ok Tryz.prog := Pr.run (TT_ok prs5_ok) 200 (by decide +kernel)
noncomputable def prs6 : List Pr := pr6 :: prs5
theorem prs6_ok : ∀ p, p ∈ prs6 → p.ok Tryz.prog := prs_cons pr6_ok prs5_ok
end Go.Proofs.YtbifpocccfkhhaaGreatDoor
