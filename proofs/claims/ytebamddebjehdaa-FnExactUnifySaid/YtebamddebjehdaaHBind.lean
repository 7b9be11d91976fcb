/- A term put for a variable into what was found; no condition but bounds on lengths. -/
import Derived.Test.YtebamddebjehdaaVB
import Derived.Test.YtebamddebjehdaaQUniE
import Derived.Test.YtebamddebjehdaaQUp
import Derived.Test.YtebamddebjehdaaGH4
import Derived.Test.YtebamddebjehdaaGH5
namespace Go.Proofs.Ytebamddebjehdaa.V
open Go.RowKit Go.Proofs.Ytebamddebjehdaa.G Go.Proofs.Ytebamddebjehdaa.Q Go.Proofs.YtebamddebjehdaaW.PrintWords Go.Proofs.YtebamddebjehdaaW.PrintLast Go.Proofs.YtebamddebjehdaaW.PrintMore
set_option linter.unusedVariables false
set_option linter.unusedSimpArgs false
section
variable {P : Program} {ops : Array Oper} {Q : Exit → Act → World → Prop} {a : Act} {w : World} {rest : List Oper} {o : Oper} {n : Nat} {l : Fs}
/-- A row that others lend is stored. -/
theorem storeLent {e1 e2 : Nat} {wL w0 W : World} {g m cap : Nat} {xs : List (List Int)} {ok : Nat → Prop} {x' : List Int} {i : Int} {p : Nat} {x : Nat} {A : Option Addr} {cc : Nat} (hF : Fr n l a) (hN : o.dst = none) (hgd : o.guard = none) (ho : o.op = .store e1 (.tmp p) (.tmp x)) (ht : (P.info? e1).map (·.size) = some 1)
    (hS : Kd.S (lent (Kd.slice e2 (Kd.int .i64)) wL) e1 W w0.heap.size ok (.slice (some ⟨g, 0, none⟩) m cap) xs) (h0 : 0 ≤ i) (hi : i < m) (hp : lookO l (.tmp p) = some (.pointer (some ⟨g, i.toNat, none⟩))) (hx : lookO l (.tmp x) = some (.slice A x'.length cc)) (hl : x'.length ≤ cc) (hC : (Kd.int .i64).C wL A x'.length x')
    (hB : Below w0.heap.size w0 W) (h : ∀ w1, Kd.S (lent (Kd.slice e2 (Kd.int .i64)) wL) e1 w1 w0.heap.size ok (.slice (some ⟨g, 0, none⟩) m cap) (xs.set i.toNat x') → Below w0.heap.size w0 w1 → W.grownBy w1 (some g) → ∀ a, Fr n l a → wpList P ops Q rest a w1) : wpList P ops Q (o :: rest) a W := by
  obtain ⟨oki, c, hcl, hM, hcc, hoki, hH⟩ := Kd.S_lend hS [] i h0 hi
  have hc1 : c.length = 1 := hcl
  refine Kd.H_store (lent (Kd.slice e2 (Kd.int .i64)) wL) (w0 := w0) w0.heap.size hN hgd e1 (.tmp p) (.tmp x) ho e1 i 0 xs x' (.slice A x'.length cc) [.slice A x'.length cc] c ok _ (fun _ => False) (hF.ev hp) (by show _ = i.toNat * 1 + 0; omega) (hF.ev hx) rfl ht (by simp [Value.oneCell']) hH h0 hi (Nat.le_refl 1)
    (by rw [List.drop_eq_nil_of_le (by simp [hc1]), List.take_zero]; exact ⟨A, cc, rfl, hl, hC⟩) (fun k hk => hk.elim) hB ?_
  intro w1 hS1 hB1 hg1
  exact h w1 hS1 hB1 hg1 _ hF
end
theorem lent_nil {wL : World} {w : World} {base : Nat} {ok : Nat → Prop} : (lent (Kd.slice 3 (Kd.int .i64)) wL).M w base ok ([] : List Int) [.slice none 0 0] := (Kd.slice 3 (Kd.int .i64)).K_of_M (w := wL) (base := 0) (ok := fun _ => True) ⟨_, rfl, Kd.R_nil _ _ _ _ _⟩
theorem one_len (v : Nat) (t : List Int) : (oneB v t).length = 12 := by simp [oneB]
theorem S_tightL {d : Kd (List Int)} {e : Nat} {wL w : World} {base g m c : Nat} {xs : List (List Int)} (h : Kd.S (lent d wL) e w base (fun _ => True) (.slice (some ⟨g, 0, none⟩) m c) xs) : Kd.S (lent d wL) e w base (fun k => k = g) (.slice (some ⟨g, 0, none⟩) m c) xs := by
  obtain ⟨f, h⟩ := h
  exact ⟨f, Kd.R_mono (Kd.R_tight rfl h) (fun k hk => by simp [Value.ownBlock] at hk; exact hk)⟩
theorem bind_up {f : List (List Int)} (hf : f.length = 12) (v : Nat) (t : List Int) : (upTo 12 (fun k => if rd_L1 f (k : Int) = [] then [] else applyL (oneB v t) (rd_L1 f (k : Int))) 12).set v t = bindF f v t := by
  rw [upTo_full]
  unfold bindF
  congr 1
  apply List.ext_getElem
  · rw [List.length_map, List.length_range, List.length_map, hf]
  · intro i h1 h2
    rw [List.length_map] at h2
    rw [List.getElem_map, List.getElem_map, List.getElem_range, rd_L1_get h2]
set_option maxRecDepth 100000 in
set_option maxHeartbeats 4000000 in
theorem l2Bind_calls {s : List Int} (f : List (List Int)) (v : Nat) (t : List Int) (hs : goodSign s = true) (hf : f.length = 12) (hv : v < 12) (hrows : ∀ r ∈ f, r = [] ∨ isTerm s r = true) (ht : isTerm s t = true) (w : World) {Af At : Option Addr} {cf ct : Nat} (hrf : Kd.C (Kd.slice 3 (Kd.int .i64)) w Af f.length f) (hcf : f.length ≤ cf) (hrt : Kd.C (Kd.int .i64) w At t.length t) (hct : t.length ≤ ct) :
    Calls Try.prog 38 #[.slice Af f.length cf, .int .i64 (v : Int), .slice At t.length ct] w fun e w' => ∃ u : Value, e = .returned u ∧ Kd.S (Kd.slice 3 (Kd.int .i64)) 22 w' w.heap.size (fun _ => True) u (bindF f v t) ∧ Below w.heap.size w w' := by
  refine enter (n := 43) (l := [(0, .slice Af f.length cf), (1, .int .i64 (v : Int)), (2, .slice At t.length ct)]) Try.func38 rfl rfl (Nat.le_of_ble_eq_true rfl) rfl (fun a_ hF => ?_)
  refine wp_seq ?_
  refine regs ?_
  refine asg hF rfl rfl rfl (by decide) rfl (fun a_ hF => ?_)
  refine finG hF [(0, .slice Af f.length cf), (1, .int .i64 (v : Int)), (2, .slice At t.length ct)] rfl (fun a_ hF => thenN ?_)
  have tb0 : Below w.heap.size w w := Below.refl _ _
  refine wp_seq ?_
  refine regs ?_
  refine Kd.S_make (lent (Kd.slice 3 (Kd.int .i64)) w) (w0 := w) w.heap.size 22 rfl rfl 26 (.const (.int .i64 12)) (.const (.int .i64 12)) rfl 12 rfl rfl Try.underlying26 (.slice none 0 0) 24 (by kernel_rfl) rfl Nat.zero_lt_one (by decide) [] (ok := fun _ => True) (okp := fun _ => False) lent_nil (fun _ h => h.elim) trivial (by omega) (by decide) tb0 tb0.size ?_
  intro v1 w1 hS1 tb1 hg1 hm1
  have hb1 := grownN hg1
  rw [show (12 : Int).toNat = 12 from rfl] at hS1
  obtain ⟨A1, c1, rfl⟩ := Kd.S_slice hS1
  rw [show (List.replicate 12 ([] : List Int)).length = 12 from rfl] at hS1
  have hF := hF.put (d := 10) (v := .slice A1 12 c1) (by decide)
  obtain ⟨g1, q1, hv1, hgb1, hgl1, _⟩ := Kd.S_form hS1 (by decide)
  rw [show (List.replicate 12 ([] : List Int)).length = 12 from rfl] at hv1
  injection hv1 with hA1 hn1 hc1
  subst hA1
  subst hc1
  have hw1 : w.heap.size ≤ g1 := by obtain ⟨b_, h1_, h2_⟩ := hm1; simp [Value.ownBlock] at h1_; omega
  refine asg hF rfl rfl rfl (by decide) rfl (fun a_ hF => ?_)
  refine finG hF [(0, .slice Af f.length cf), (1, .int .i64 (v : Int)), (2, .slice At t.length ct), (7, .slice (some ⟨g1, 0, none⟩) 12 c1)] rfl (fun a_ hF => thenN ?_)
  refine wp_seq ?_
  refine regs ?_
  refine mov hF rfl rfl rfl (by decide) rfl (fun a_ hF => ?_)
  refine mov hF rfl rfl rfl (by decide) rfl (fun a_ hF => ?_)
  refine mov hF rfl rfl rfl (by decide) rfl (fun a_ hF => ?_)
  have hv1 : (v : Int) < 12 := by omega
  refine valq hF (.pointer (some ⟨g1, v, none⟩)) rfl rfl (by decide) (by have e1 := hF.sl 11 rfl; have e2 := hF.sl 12 rfl; clear hf; go_simp) (fun a_ hF => ?_)
  refine storeLent (W := w1) (w0 := w) (wL := w) (ok := fun _ => True) (i := (v : Int)) hF rfl rfl rfl (by kernel_rfl) hS1 (by omega) (by omega) rfl rfl hct hrt tb1 ?_
  intro w2 hS2 tb2 hg2 a_ hF
  rw [Int.toNat_natCast, show (List.replicate 12 ([] : List Int)).set v t = oneB v t from rfl] at hS2
  refine finG hF [(0, .slice Af f.length cf), (1, .int .i64 (v : Int)), (2, .slice At t.length ct), (7, .slice (some ⟨g1, 0, none⟩) 12 c1)] rfl (fun a_ hF => thenN ?_)
  refine wp_seq ?_
  refine regs ?_
  refine Kd.S_make (Kd.slice 3 (Kd.int .i64)) (w0 := w) w.heap.size 22 rfl rfl 26 (.const (.int .i64 12)) (.const (.int .i64 12)) rfl 12 rfl rfl Try.underlying26 (.slice none 0 0) 24 (by kernel_rfl) rfl Nat.zero_lt_one (by decide) [] (ok := fun _ => True) (okp := fun _ => False) ⟨_, rfl, Kd.R_nil _ _ _ _ _⟩ (fun _ h => h.elim) trivial (by omega) (by decide) tb2 tb2.size ?_
  intro v2 w3 hSo tb3 hgo hm2
  have hbo := grownN hgo
  rw [show (12 : Int).toNat = 12 from rfl] at hSo
  obtain ⟨A2, c2, rfl⟩ := Kd.S_slice hSo
  rw [show (List.replicate 12 ([] : List Int)).length = 12 from rfl] at hSo
  have hF := hF.put (d := 15) (v := .slice A2 12 c2) (by decide)
  obtain ⟨g2, q2, hv2, hgb2, hgl2, _⟩ := Kd.S_form hSo (by decide)
  rw [show (List.replicate 12 ([] : List Int)).length = 12 from rfl] at hv2
  injection hv2 with hA2 hn2 hc2
  subst hA2
  subst hc2
  have hw2 : w2.heap.size ≤ g2 := by obtain ⟨b_, h1_, h2_⟩ := hm2; simp [Value.ownBlock] at h1_; omega
  have hS3 := Kd.S_below hS2 hbo
  rw [← upTo_zero 12 (fun k => if rd_L1 f (k : Int) = [] then [] else applyL (oneB v t) (rd_L1 f (k : Int)))] at hSo
  refine asg hF rfl rfl rfl (by decide) rfl (fun a_ hF => ?_)
  refine finG hF [(0, .slice Af f.length cf), (1, .int .i64 (v : Int)), (2, .slice At t.length ct), (7, .slice (some ⟨g1, 0, none⟩) 12 c1), (8, .slice (some ⟨g2, 0, none⟩) 12 c2)] rfl (fun a_ hF => thenN ?_)
  refine wp_seq ?_
  refine wp_seq ?_
  refine regs ?_
  refine mov hF rfl rfl rfl (by decide) rfl (fun a_ hF => ?_)
  refine valq hF (.int .i64 12) rfl rfl (by decide) (by have e1 := hF.sl 16 rfl; clear hf; go_simp) (fun a_ hF => ?_)
  refine mov hF rfl rfl rfl (by decide) rfl (fun a_ hF => ?_)
  refine finG hF [(0, .slice Af f.length cf), (1, .int .i64 (v : Int)), (2, .slice At t.length ct), (7, .slice (some ⟨g1, 0, none⟩) 12 c1), (8, .slice (some ⟨g2, 0, none⟩) 12 c2), (17, .int .i64 12), (18, .int .i64 0)] rfl (fun a_ hF => thenN ?_)
  have hz2 := hg2.size
  have hwg : w.heap.size ≤ g1 ∧ g1 < g2 ∧ g2 < w3.heap.size := ⟨hgb1, by omega, hgl2⟩
  refine wp_block ?_   -- block 0
  refine loopS (fun k : Nat => 12 - k) (fun k a_ w' => Fr 43 [(0, .slice Af f.length cf), (1, .int .i64 (v : Int)), (2, .slice At t.length ct), (7, .slice (some ⟨g1, 0, none⟩) 12 c1), (8, .slice (some ⟨g2, 0, none⟩) 12 c2), (17, .int .i64 12), (18, .int .i64 (k : Int))] a_ ∧ k ≤ 12 ∧ Kd.S (lent (Kd.slice 3 (Kd.int .i64)) w) 22 w' w.heap.size (fun k => k = g1) (.slice (some ⟨g1, 0, none⟩) 12 c1) (oneB v t) ∧
    Kd.S (Kd.slice 3 (Kd.int .i64)) 22 w' w.heap.size (fun _ => True) (.slice (some ⟨g2, 0, none⟩) 12 c2) (upTo 12 (fun k => if rd_L1 f (k : Int) = [] then [] else applyL (oneB v t) (rd_L1 f (k : Int))) k) ∧ Below w.heap.size w w') 0 ⟨hF, by omega, S_tightL hS3, hSo, tb3⟩ ?_
  clear hF hS1 hS2 hS3 hSo
  rintro k a_ w4 ⟨hF, hk, hSl, hSo, tb4⟩
  refine wp_seq ?_
  refine regs ?_
  refine bop hF rfl rfl rfl (by decide) rfl rfl (b_lss Try.underlying3 rfl) (fun a_ hF => ?_)
  refine finG hF [(0, .slice Af f.length cf), (1, .int .i64 (v : Int)), (2, .slice At t.length ct), (7, .slice (some ⟨g1, 0, none⟩) 12 c1), (8, .slice (some ⟨g2, 0, none⟩) 12 c2), (17, .int .i64 12), (18, .int .i64 (k : Int)), (19, .bool (decide ((k : Int) < 12)))] rfl (fun a_ hF => thenN ?_)
  refine wp_seq ?_
  by_cases hc : (k : Int) < 12
  · refine condT' hF hc rfl ?_
    have hkf : k < f.length := by omega
    have hskip := upTo_skip 12 (fun k => if rd_L1 f (k : Int) = [] then [] else applyL (oneB v t) (rd_L1 f (k : Int))) k
    have hset := upTo_set 12 (fun k => if rd_L1 f (k : Int) = [] then [] else applyL (oneB v t) (rd_L1 f (k : Int))) k
    obtain ⟨ad, B, d, hA, hld, hd, hCB⟩ := at_L1 hrf (k : Int) (by omega) (by omega)
    subst hA
    rw [Int.toNat_natCast] at hld
    have hrk := hrows _ (List.getElem_mem hkf)
    rw [← rd_L1_get hkf] at hrk
    generalize hU1 : upTo 12 (fun k => if rd_L1 f (k : Int) = [] then [] else applyL (oneB v t) (rd_L1 f (k : Int))) (k + 1) = U1 at hskip hset
    generalize rd_L1 f (k : Int) = r at hld hd hCB hrk hskip hset
    generalize upTo 12 (fun k => if rd_L1 f (k : Int) = [] then [] else applyL (oneB v t) (rd_L1 f (k : Int))) k = U0 at hSo hskip hset
    have hld4 := pw_cell_below tb4 hld
    have hkl : (k : Int) < (f.length : Int) := by omega
    refine wp_skip (thenN ?_)
    refine wp_seq ?_
    refine wp_block ?_   -- block 1
    refine wp_seq ?_
    refine regs ?_
    refine mov hF rfl rfl rfl (by decide) rfl (fun a_ hF => ?_)
    refine asg hF rfl rfl rfl (by decide) rfl (fun a_ hF => ?_)
    refine finG hF [(0, .slice (some ad) f.length cf), (1, .int .i64 (v : Int)), (2, .slice At t.length ct), (7, .slice (some ⟨g1, 0, none⟩) 12 c1), (8, .slice (some ⟨g2, 0, none⟩) 12 c2), (9, .int .i64 (k : Int)), (17, .int .i64 12), (18, .int .i64 (k : Int))] rfl (fun a_ hF => thenN ?_)
    refine wp_seq ?_
    refine regs ?_
    refine mov hF rfl rfl rfl (by decide) rfl (fun a_ hF => ?_)
    refine mov hF rfl rfl rfl (by decide) rfl (fun a_ hF => ?_)
    refine valq hF (.pointer (some (ad.add k))) rfl rfl (by decide) (by clear hU1 hskip hset hrk hf; have e1 := hF.sl 21 rfl; have e2 := hF.sl 22 rfl; go_simp) (fun a_ hF => ?_)
    refine valq hF (.slice B r.length d) rfl rfl (by decide) (by clear hU1 hskip hset hrk hf; have e1 := hF.sl 23 rfl; go_simp) (fun a_ hF => ?_)
    refine valq hF (.int .i64 (r.length : Int)) rfl rfl (by decide) (by clear hU1 hskip hset hrk hf; have e1 := hF.sl 24 rfl; go_simp) (fun a_ hF => ?_)
    refine bop hF rfl rfl rfl (by decide) rfl rfl (b_gtr Try.underlying3 rfl) (fun a_ hF => ?_)
    refine finG hF [(0, .slice (some ad) f.length cf), (1, .int .i64 (v : Int)), (2, .slice At t.length ct), (7, .slice (some ⟨g1, 0, none⟩) 12 c1), (8, .slice (some ⟨g2, 0, none⟩) 12 c2), (9, .int .i64 (k : Int)), (17, .int .i64 12), (18, .int .i64 (k : Int)), (26, .bool (decide (0 < (r.length : Int))))] rfl (fun a_ hF => thenN ?_)
    by_cases he : r = []
    · refine condE' hF (by rw [he]; simp) rfl ?_
      rw [hskip (if_pos he)] at hSo
      refine wp_skip (blockN (thenN ?_))
      refine regs ?_
      refine bop hF rfl rfl rfl (by decide) rfl rfl (b_add Try.underlying3 (by omega) (by omega)) (fun a_ hF => ?_)
      refine mov hF rfl rfl rfl (by decide) rfl (fun a_ hF => ?_)
      refine finG hF [(0, .slice (some ad) f.length cf), (1, .int .i64 (v : Int)), (2, .slice At t.length ct), (7, .slice (some ⟨g1, 0, none⟩) 12 c1), (8, .slice (some ⟨g2, 0, none⟩) 12 c2), (17, .int .i64 12), (18, .int .i64 ((k : Int) + 1))] rfl (fun a_ hF => thenN ?_)
      exact ⟨k + 1, by omega, hF, by omega, hSl, by rw [hU1]; exact hSo, tb4⟩
    · refine condT' hF (by have := List.length_pos_iff.2 he; omega) rfl ?_
      rw [if_neg he] at hset
      have hrt2 : isTerm s r = true := hrk.resolve_left he
      obtain ⟨j1, e1⟩ := Ev.rounds (spec_l2Apply_ev (one_good hs (v := v) ht) hrt2)
      generalize applyL (oneB v t) r = z at e1 hset
      refine regs ?_
      refine mov hF rfl rfl rfl (by decide) rfl (fun a_ hF => ?_)
      refine mov hF rfl rfl rfl (by decide) rfl (fun a_ hF => ?_)
      refine mov hF rfl rfl rfl (by decide) rfl (fun a_ hF => ?_)
      refine mov hF rfl rfl rfl (by decide) rfl (fun a_ hF => ?_)
      refine mov hF rfl rfl rfl (by decide) rfl (fun a_ hF => ?_)
      refine valq hF (.pointer (some (ad.add k))) rfl rfl (by decide) (by clear hU1 hskip hset hrk hf e1 hrt2; have e1 := hF.sl 30 rfl; have e2 := hF.sl 31 rfl; go_simp) (fun a_ hF => ?_)
      refine valq hF (.slice B r.length d) rfl rfl (by decide) (by clear hU1 hskip hset hrk hf e1 hrt2; have e1 := hF.sl 32 rfl; go_simp) (fun a_ hF => ?_)
      have hQ := Kd.S_reads' hSl
      have hcall := spec_l2Apply.calls _ _ c1 (oneB v t) _ d r _ w4 (lent_C hQ.2.2 tb4) (by rw [one_len]; exact hQ.2.1) (Kd.C_below hCB tb4) hd e1
      rw [one_len] at hcall
      clear hQ
      refine call hF rfl rfl rfl (by decide) Try.func39 (by kernel_rfl) rfl hcall rfl ?_
      rintro e_ w5 ⟨v34, rfl, hR34, hb5⟩
      refine ⟨_, rfl, fun a_ hF => ?_⟩
      have tb5 := below_step tb4 hb5
      have hle4 := tb4.size
      refine valq hF (.pointer (some ⟨g2, k, none⟩)) rfl rfl (by decide) (by clear hU1 hskip hset hrk hf e1 hrt2; have e1 := hF.sl 27 rfl; have e2 := hF.sl 28 rfl; go_simp) (fun a_ hF => ?_)
      refine storeRow (W := w4) (w0 := w) (ok := fun _ => True) (i := (k : Int)) hF rfl rfl rfl (by kernel_rfl) hSo (by omega) (by omega) rfl rfl hb5 tb5 hle4 (Kd.R_mono (Kd.R_bound hR34) (fun q hq => hq.2.1)) (fun _ _ => trivial) ?_
      intro w6 hSo6 tb6 hg6 a_ hF
      rw [Int.toNat_natCast, hset] at hSo6
      have hSl6 := Kd.S_step (Kd.S_below hSl hb5) (fun q hq hql => hg6.block q hql (fun e => by injection e with e; omega))
      refine finG hF [(0, .slice (some ad) f.length cf), (1, .int .i64 (v : Int)), (2, .slice At t.length ct), (7, .slice (some ⟨g1, 0, none⟩) 12 c1), (8, .slice (some ⟨g2, 0, none⟩) 12 c2), (17, .int .i64 12), (18, .int .i64 (k : Int))] rfl (fun a_ hF => blockN (thenN ?_))
      refine regs ?_
      refine bop hF rfl rfl rfl (by decide) rfl rfl (b_add Try.underlying3 (by omega) (by omega)) (fun a_ hF => ?_)
      refine mov hF rfl rfl rfl (by decide) rfl (fun a_ hF => ?_)
      refine finG hF [(0, .slice (some ad) f.length cf), (1, .int .i64 (v : Int)), (2, .slice At t.length ct), (7, .slice (some ⟨g1, 0, none⟩) 12 c1), (8, .slice (some ⟨g2, 0, none⟩) 12 c2), (17, .int .i64 12), (18, .int .i64 ((k : Int) + 1))] rfl (fun a_ hF => thenN ?_)
      exact ⟨k + 1, by omega, hF, by omega, hSl6, by rw [hU1]; exact hSo6, tb6⟩
  · refine condE' hF hc rfl ?_
    have hk12 : k = 12 := by omega
    subst hk12
    have htl := (isTerm_parts ht).1
    have ho : spec_l1Own.f t = some t := own_eq t (by omega)
    refine wp_exit (exitT (exitT (exitH (thenN ?_))))   -- exit 0
    refine wp_seq ?_
    refine regs ?_
    refine mov hF rfl rfl rfl (by decide) rfl (fun a_ hF => ?_)
    refine mov hF rfl rfl rfl (by decide) rfl (fun a_ hF => ?_)
    refine mov hF rfl rfl rfl (by decide) rfl (fun a_ hF => ?_)
    refine call hF rfl rfl rfl (by decide) Try.func34 (by kernel_rfl) rfl (spec_l1Own.calls _ _ _ _ w4 (Kd.C_below hrt tb4) hct ho) rfl ?_
    rintro e_ w5 ⟨v40, rfl, hR40, hb5⟩
    refine ⟨_, rfl, fun a_ hF => ?_⟩
    have tb5 := below_step tb4 hb5
    have hle4 := tb4.size
    have hv1 : (v : Int) < 12 := by omega
    refine valq hF (.pointer (some ⟨g2, v, none⟩)) rfl rfl (by decide) (by clear hf ho; have e1 := hF.sl 37 rfl; have e2 := hF.sl 38 rfl; go_simp) (fun a_ hF => ?_)
    refine storeRow (W := w4) (w0 := w) (ok := fun _ => True) (i := (v : Int)) hF rfl rfl rfl (by kernel_rfl) hSo (by omega) (by omega) rfl rfl hb5 tb5 hle4 (Kd.R_mono (Kd.R_bound hR40) (fun q hq => hq.2.1)) (fun _ _ => trivial) ?_
    intro w6 hSo6 tb6 hg6 a_ hF
    rw [Int.toNat_natCast, bind_up hf] at hSo6
    refine finG hF [(8, .slice (some ⟨g2, 0, none⟩) 12 c2)] rfl (fun a_ hF => thenN ?_)
    refine wp_seq ?_
    refine regs ?_
    refine mov hF rfl rfl rfl (by decide) rfl (fun a_ hF => ?_)
    refine asg hF rfl rfl rfl (by decide) rfl (fun a_ hF => ?_)
    refine finG hF [(6, .slice (some ⟨g2, 0, none⟩) 12 c2)] rfl (fun a_ hF => thenN ?_)
    refine wp_ret (?_)
    refine (ret1 (fn := Try.f38) hF rfl rfl ?_ : bodyPost Try.prog Try.f38 _ .ret _ _)
    exact ⟨_, rfl, hSo6, tb6⟩
end Go.Proofs.Ytebamddebjehdaa.V
