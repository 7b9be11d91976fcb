/- The law FnExactFactor: for every input the call returns true, and each argument reads afterwards as it read before; no condition. -/
import Derived.Test.YtcipakpifklipaaGreatRows
import Derived.Test.YtcipakpifklipaaGreatGHead
import Derived.Test.YtcipakpifklipaaGreatGOpens
import Derived.Test.YtcipakpifklipaaGreatYFnExactFactor
namespace Go.Proofs.YtcipakpifklipaaGreat.fnExactFactor
open Go.ChangeShapes Go.WideShapes Go.ChangeAt Go.RowKit Go.Proofs.YtcipakpifklipaaGreat.G
open Go.ChangeMaps (open_string shut_string)
set_option linter.unusedVariables false
theorem own : ownKnob Tryz.prog.godebug = none := by kernel_rfl
theorem laidOut : laidOutB Tryz.prog = true := by kernel_rfl
set_option maxRecDepth 100000 in
theorem lifted (os : Os) (started : os.Started) (H : Type) (enc : TypeId × Value → H) :
  ReturnsInHanded {} Tryz.checked os 4 .any (Rows.fnExactFactorSpec.pre6 enc Tryz.prog Tryz.f4 Rows.fnExactFactorRow.domain false) (Rows.fnExactFactorSpec.post enc Tryz.prog Tryz.f4 false true false false) := by
 refine returnsInHanded_of_change_sized (C := Tryz.checked) own started (by kernel_rfl) Tryz.func4
  (ChangeSpec.witness6 (enc := enc) (C := Tryz.checked) false ⟨#[], #[.agg #[.slice none 0 0], .slice none 0 0, .agg #[.int .i64 0, .int .i64 0, .int .i64 0, .int .i64 0, .int .i64 0]], []⟩ 8 (by kernel_rfl) (by kernel_rfl) (by kernel_rfl) (by kernel_rfl)) ?_
 intro W base args ds gs before hval0 hW hcnd hsz0 _
 have hsz : (DataW.weightsEach Tryz.prog (Tryz.f4.params.toList ++ Rows.fnExactFactorSpec.plain.varTypes Tryz.prog) (ds ++ gs)).all (· ≤ reachBytes) = true := hsz0
 have hval : ∀ (j : Nat) t v, Tryz.f4.params[j]? = some t → args[j]? = some v → Value.okWide Tryz.prog W .any base t v := hval0
 have hW' := hW
 obtain ⟨p, q, hA0, hV, rfl, hfz, hnd⟩ := hW
 have hA : DataW.TrodAll enc Tryz.prog W 0 (fun _ => true) true Tryz.f4.params.toList args.toList ds p := hA0
 rw [Tryz.params4] at hA hval hsz
 obtain ⟨v0, vs0, d0, ds0, p0, q0, hargs, rfl, rfl, h0, r0⟩ := trodAll_cons hA
 obtain ⟨v1, vs1, d1, ds1, p1, q1, rfl, rfl, rfl, h1, r1⟩ := trodAll_cons r0
 obtain ⟨v2, vs2, d2, ds2, p2, q2, rfl, rfl, rfl, h2, r2⟩ := trodAll_cons r1
 obtain ⟨rfl, rfl, rfl⟩ := trodAll_nil r2
 obtain rfl : args = #[v0, v1, v2] := by cases args; simp_all
 obtain ⟨rfl, rfl⟩ := trodVars_none hV
 have k0 := h0
 have lt0 : ∀ x ∈ p0, x.block < W.heap.size := by obtain ⟨m, hm⟩ := k0; exact DataW.trod_lt m _ _ _ hm
 obtain ⟨l0_0, hK0, hok0⟩ := Opens.arg opensT24 hsz (j := 0) (t := 24) rfl rfl h0
 obtain ⟨A0_0, c0_0, hcs0, hc0_0, hr0_0⟩ := hK0
 obtain rfl : v0 = .agg #[.slice A0_0 l0_0.length c0_0] := by
  obtain ⟨cs_, rfl, hz_⟩ := okWide_struct Tryz.underlying24 (hval 0 24 v0 rfl rfl)
  congr 1
  apply Array.toList_inj.1
  simpa [Value.cells] using hcs0
 have ok0_0 := hok0
 have k1 := h1
 have lt1 : ∀ x ∈ p1, x.block < W.heap.size := by obtain ⟨m, hm⟩ := k1; exact DataW.trod_lt m _ _ _ hm
 obtain ⟨l1, ⟨A1, c1, hcs1, hc1, hr1⟩, ok1⟩ := Opens.arg opens25 hsz (j := 1) (t := 25) rfl rfl h1
 obtain rfl : v1 = .slice A1 l1.length c1 := by obtain ⟨a_, len_, cap_, rfl⟩ := okWide_slice Tryz.underlying25 (hval 1 25 v1 rfl rfl); simpa [Value.cells] using hcs1
 have k2 := h2
 have lt2 : ∀ x ∈ p2, x.block < W.heap.size := by obtain ⟨m, hm⟩ := k2; exact DataW.trod_lt m _ _ _ hm
 obtain ⟨⟨a2_0, a2_1, a2_2, a2_3, a2_4⟩, hK2, hok2⟩ := Opens.arg opensT40 hsz (j := 2) (t := 40) rfl rfl h2
 obtain ⟨_, _, hcs2, rfl, ⟨_, _, rfl, rfl, ⟨_, _, rfl, rfl, ⟨_, _, rfl, rfl, rfl⟩⟩⟩⟩ := hK2
 obtain rfl : v2 = .agg #[.int .i64 a2_0, .int .i64 a2_1, .int .i64 a2_2, .int .i64 a2_3, .int .i64 a2_4] := by
  obtain ⟨cs_, rfl, hz_⟩ := okWide_struct Tryz.underlying40 (hval 2 40 v2 rfl rfl)
  congr 1
  apply Array.toList_inj.1
  simpa [Value.cells] using hcs2
 obtain ⟨ok2_0, ok2_1, ok2_2, ok2_3, ok2_4⟩ := hok2
 clear hA0 hval0 hsz0 hsz
 refine (V.walk_FnExactFactor l0_0 l1 a2_0 a2_1 a2_2 a2_3 a2_4 ok0_0 ok1 ok2_0 ok2_1 ok2_2 ok2_3 ok2_4 W hr0_0 hc0_0 hr1 hc1).mono fun e W' ⟨he, bel⟩ => ?_
 subst he
 exact ⟨_, rfl, _, _, _, [], _, [], hW', trodAll_mk1 (shut_bool Tryz.underlying4 _), (trodAll_cons_mk (Below.trod laidOut (by kernel_rfl) (of_decide_eq_true (by kernel_rfl)) k0 bel lt0) (trodAll_cons_mk (Below.trod laidOut (by kernel_rfl) (of_decide_eq_true (by kernel_rfl)) k1 bel lt1) (trodAll_cons_mk (Below.trod laidOut (by kernel_rfl) (of_decide_eq_true (by kernel_rfl)) k2 bel lt2) trodAll_mk0))), rfl, bel.frame _, fun h => by cases h⟩
set_option maxHeartbeats 4000000 in
theorem closed : joinedFacts Tryz.prog 4 Tryz.f4 Rows.fnExactFactorSpec Rows.fnExactFactorRow = true := by
 unfold joinedFacts
 simp only [Bool.and_eq_true]
 repeat' with_reducible apply And.intro
 all_goals first | with_reducible exact Head.mayEnter | (rw [Head.lifts]; as_aux_lemma => kernel_rfl) | (rw [Head.makes]; as_aux_lemma => kernel_rfl) | (as_aux_lemma => kernel_rfl)
theorem over : Rows.fnExactFactorRow.holds Tryz.pinned (OpenSpec.ofChange Rows.fnExactFactorSpec) :=
 OpenClaim.holds_of_wide 4 Tryz.f4 rfl rfl rfl rfl rfl rfl rfl ⟨rfl, rfl, rfl, rfl, rfl⟩ rfl rfl rfl rfl rfl (by as_aux_lemma => kernel_rfl) Tryz.func4 closed
  (of_decide_eq_true (by as_aux_lemma => kernel_rfl)) (by unfold Func.isWrapper; first | (rw [if_pos (by decide +kernel)]; kernel_rfl) | (rw [if_neg (by decide +kernel)]; exact ⟨rfl, rfl⟩))
  (fun os started H enc _ => lifted os started H enc)
theorem proved : Rows.FnExactFactorSaid := over
#print axioms proved
end Go.Proofs.YtcipakpifklipaaGreat.fnExactFactor
namespace Go.Proofs.YtcipakpifklipaaGreat
theorem fnExactFactor_holds : Rows.FnExactFactorSaid := fnExactFactor.proved
end Go.Proofs.YtcipakpifklipaaGreat
