/- The law FnExactSingleWays: for every input the call returns true, and each argument reads afterwards as it read before; no condition. -/
import Derived.Test.YtcipakpifklipaaGreatRows
import Derived.Test.YtcipakpifklipaaGreatGHead
import Derived.Test.YtcipakpifklipaaGreatGOpens
import Derived.Test.YtcipakpifklipaaGreatYFnExactSingleWays
namespace Go.Proofs.YtcipakpifklipaaGreat.fnExactSingleWays
open Go.ChangeShapes Go.WideShapes Go.ChangeAt Go.RowKit Go.Proofs.YtcipakpifklipaaGreat.G
open Go.ChangeMaps (open_string shut_string)
set_option linter.unusedVariables false
theorem own : ownKnob Tryz.prog.godebug = none := by kernel_rfl
theorem laidOut : laidOutB Tryz.prog = true := by kernel_rfl
set_option maxRecDepth 100000 in
theorem lifted (os : Os) (started : os.Started) (H : Type) (enc : TypeId × Value -> H) :
  ReturnsInHanded {} Tryz.checked os 5 .any (Rows.fnExactSingleWaysSpec.pre6 enc Tryz.prog Tryz.f5 Rows.fnExactSingleWaysRow.domain false) (Rows.fnExactSingleWaysSpec.post enc Tryz.prog Tryz.f5 false true false false) := by
 refine returnsInHanded_of_change_sized (C := Tryz.checked) own started (by kernel_rfl) Tryz.func5
  (ChangeSpec.witness6 (enc := enc) (C := Tryz.checked) false ⟨#[], #[.agg #[.slice none 0 0], .slice none 0 0], []⟩ 8 (by kernel_rfl) (by kernel_rfl) (by kernel_rfl) (by kernel_rfl)) ?_
 intro W base args ds gs before hval0 hW hcnd hsz0 _
 have hsz : (DataW.weightsEach Tryz.prog (Tryz.f5.params.toList ++ Rows.fnExactSingleWaysSpec.plain.varTypes Tryz.prog) (ds ++ gs)).all (· <= reachBytes) = true := hsz0
 have hval : ∀ (j : Nat) t v, Tryz.f5.params[j]? = some t -> args[j]? = some v -> Value.okWide Tryz.prog W .any base t v := hval0
 have hW' := hW
 obtain ⟨p, q, hA0, hV, rfl, hfz, hnd⟩ := hW
 have hA : DataW.TrodAll enc Tryz.prog W 0 (fun _ => true) true Tryz.f5.params.toList args.toList ds p := hA0
 rw [Tryz.params5] at hA hval hsz
 obtain ⟨v0, vs0, d0, ds0, p0, q0, hargs, rfl, rfl, h0, r0⟩ := trodAll_cons hA
 obtain ⟨v1, vs1, d1, ds1, p1, q1, rfl, rfl, rfl, h1, r1⟩ := trodAll_cons r0
 obtain ⟨rfl, rfl, rfl⟩ := trodAll_nil r1
 obtain rfl : args = #[v0, v1] := by cases args; simp_all
 obtain ⟨rfl, rfl⟩ := trodVars_none hV
 have k0 := h0
 have lt0 : ∀ x ∈ p0, x.block < W.heap.size := by obtain ⟨m, hm⟩ := k0; exact DataW.trod_lt m _ _ _ hm
 obtain ⟨l0_0, hK0, hok0⟩ := Opens.arg opensT24 hsz (j := 0) (t := 24) rfl rfl h0
 obtain ⟨A0_0, c0_0, hcs0, hc0_0, hr0_0⟩ := hK0
 obtain rfl : v0 = .agg #[.slice A0_0 l0_0.length c0_0] := by
  obtain ⟨cs_, rfl, hz_⟩ := okWide_struct Tryz.underlying24 (hval 0 24 v0 rfl rfl)
  congr 1
  apply Array.toList_inj.1
  simpa [Value.cells] using hcs0
 have ok0_0 := hok0
 have k1 := h1
 have lt1 : ∀ x ∈ p1, x.block < W.heap.size := by obtain ⟨m, hm⟩ := k1; exact DataW.trod_lt m _ _ _ hm
 obtain ⟨l1, ⟨A1, c1, hcs1, hc1, hr1⟩, ok1⟩ := Opens.arg opens25 hsz (j := 1) (t := 25) rfl rfl h1
 obtain rfl : v1 = .slice A1 l1.length c1 := by obtain ⟨a_, len_, cap_, rfl⟩ := okWide_slice Tryz.underlying25 (hval 1 25 v1 rfl rfl); simpa [Value.cells] using hcs1
 clear hA0 hval0 hsz0 hsz
 refine (V.walk_FnExactSingleWays l0_0 l1 ok0_0 ok1 W hr0_0 hc0_0 hr1 hc1).mono fun e W' ⟨he, bel⟩ => ?_
 subst he
 exact ⟨_, rfl, _, _, _, [], _, [], hW', trodAll_mk1 (shut_bool Tryz.underlying4 _), (trodAll_cons_mk (Below.trod laidOut (by kernel_rfl) (of_decide_eq_true (by kernel_rfl)) k0 bel lt0) (trodAll_cons_mk (Below.trod laidOut (by kernel_rfl) (of_decide_eq_true (by kernel_rfl)) k1 bel lt1) trodAll_mk0)), rfl, bel.frame _, fun h => by cases h⟩
set_option maxHeartbeats 4000000 in
theorem closed : joinedFacts Tryz.prog 5 Tryz.f5 Rows.fnExactSingleWaysSpec Rows.fnExactSingleWaysRow = true := by
 unfold joinedFacts
 simp only [Bool.and_eq_true]
 repeat' with_reducible apply And.intro
 all_goals first | with_reducible exact Head.mayEnter | (rw [Head.lifts]; as_aux_lemma => kernel_rfl) | (rw [Head.makes]; as_aux_lemma => kernel_rfl) | (as_aux_lemma => kernel_rfl)
theorem over : Rows.fnExactSingleWaysRow.holds Tryz.pinned (OpenSpec.ofChange Rows.fnExactSingleWaysSpec) :=
 OpenClaim.holds_of_wide 5 Tryz.f5 rfl rfl rfl rfl rfl rfl rfl ⟨rfl, rfl, rfl, rfl, rfl⟩ rfl rfl rfl rfl rfl (by as_aux_lemma => kernel_rfl) Tryz.func5 closed
  (of_decide_eq_true (by as_aux_lemma => kernel_rfl)) (by unfold Func.isWrapper; first | (rw [if_pos (by decide +kernel)]; kernel_rfl) | (rw [if_neg (by decide +kernel)]; exact ⟨rfl, rfl⟩))
  (fun os started H enc _ => lifted os started H enc)
theorem proved : Rows.FnExactSingleWaysSaid := over
#print axioms proved
end Go.Proofs.YtcipakpifklipaaGreat.fnExactSingleWays
namespace Go.Proofs.YtcipakpifklipaaGreat
theorem fnExactSingleWays_holds : Rows.FnExactSingleWaysSaid := fnExactSingleWays.proved
end Go.Proofs.YtcipakpifklipaaGreat
