/- Values that come in as data, opened as the printed walks read them. -/
import Derived.Test.YtcipakpifklipaaGreatG0
import Derived.WalkKit
import Derived.ProofKit
import Derived.OpenShut
import Derived.ShutString
import Derived.ChangeOld
import Derived.Below
import Derived.SizedLaws
import Derived.ChangeSlices
namespace Go.Proofs.YtcipakpifklipaaGreat.G
open Go.RowKit Go.ChangeShapes Go.WideShapes Go.ChangeAt Go.Proofs.YtcipakpifklipaaGreatW.PrintWords Go.Proofs.YtcipakpifklipaaGreatW.PrintLast
def Opens (P : Program) (t : TypeId) {α : Type} (d : Kd α) (ok : α -> Prop) : Prop :=
  ∀ (H : Type) (enc : TypeId × Value -> H) (w : World) (base : Nat) (spare : Nat -> Bool) (held : Bool) (fuel : Nat) (cs : List Value) (x : DataW H × List MemPlace),
    DataW.trod enc P w base spare held fuel t cs = some x -> (x.1.weights P t).all (· <= reachBytes) = true -> ∃ y : α, d.K w y cs /\ ok y
theorem Opens.mono {P : Program} {t : TypeId} {α : Type} {d : Kd α} {ok ok' : α -> Prop} (h : Opens P t d ok) (hi : ∀ y, ok y -> ok' y) : Opens P t d ok' := by
  intro H enc w base spare held fuel cs x hx hw
  obtain ⟨y, hy, ho⟩ := h H enc w base spare held fuel cs x hx hw
  exact ⟨y, hy, hi y ho⟩
theorem opens_int {P : Program} {t : TypeId} {k : IntKind} (ht : P.underlying t = some (.int k)) : Opens P t (Kd.int k) (fun n => (Lit.int k n).wf = true) := by
  intro H enc w base spare held fuel cs x hx _
  obtain ⟨n, rfl, _, hw⟩ := DataW.trod_int ht hx
  exact ⟨n, rfl, hw⟩
theorem opens_bool {P : Program} {t : TypeId} (ht : P.underlying t = some .bool) : Opens P t Kd.bool (fun _ => True) := by
  intro H enc w base spare held fuel cs x hx _
  obtain ⟨b, rfl, _⟩ := DataW.trod_bool ht hx
  exact ⟨b, rfl, trivial⟩
theorem weights_all_mem {H : Type} {P : Program} {e : TypeId} : ∀ {l : List (DataW H)} {d : DataW H}, d ∈ l -> ∀ n ∈ d.weights P e, n ∈ DataW.weightsAll P e l
  | d0 :: l, d, hd, n, hn => by
    simp only [DataW.weightsAll, List.mem_append]
    rcases List.mem_cons.1 hd with rfl | h
    · exact Or.inl hn
    · exact Or.inr (weights_all_mem h n hn)
theorem addr_add (a : Addr) (m n : Nat) : (a.add m).add n = a.add (m + n) := by
  by_cases hm : m = 0
  · subst hm; simp [Addr.add]
  · by_cases hn : n = 0
    · subst hn; simp [Addr.add, hm]
    · simp [Addr.add, hm, hn, Nat.add_assoc]
theorem part3 (cs : List Value) (a b c : Nat) (h : cs.length = a + b + c) : cs = cs.take a ++ ((cs.drop a).take b ++ (cs.drop (a + b)).take c) := by
  rw [List.take_of_length_le (l := cs.drop (a + b)) (by rw [List.length_drop]; omega), <- List.drop_drop, List.take_append_drop, List.take_append_drop]
theorem part5 (cs : List Value) (a b c d e : Nat) (h : cs.length = a + b + c + d + e) : cs = cs.take a ++ ((cs.drop a).take b ++ ((cs.drop (a + b)).take c ++ ((cs.drop (a + b + c)).take d ++ (cs.drop (a + b + c + d)).take e))) := by
  rw [List.take_of_length_le (l := cs.drop (a + b + c + d)) (by rw [List.length_drop]; omega), <- List.drop_drop (i := d), List.take_append_drop, <- List.drop_drop (i := c), List.take_append_drop, <- List.drop_drop (i := b), List.take_append_drop, List.take_append_drop]
theorem list_of_each {α : Type} (n : Nat) (p : Nat -> α -> Prop) (h : ∀ i, i < n -> ∃ y, p i y) : ∃ l : List α, l.length = n /\ ∀ i y, l[i]? = some y -> p i y := by
  induction n with
  | zero => exact ⟨[], rfl, fun i y hy => by simp at hy⟩
  | succ n ih =>
    obtain ⟨l, hl, hp⟩ := ih (fun i hi => h i (by omega))
    obtain ⟨y, hy⟩ := h n (by omega)
    refine ⟨l ++ [y], by simp [hl], fun i z hz => ?_⟩
    by_cases hi : i < n
    · rw [List.getElem?_append_left (by omega)] at hz
      exact hp i z hz
    · have : i = n := by
        have := (List.getElem?_eq_some_iff.1 hz).1
        simp at this
        omega
      subst this
      rw [List.getElem?_append_right (by omega)] at hz
      simp [hl] at hz
      exact hz ▸ hy
theorem opens_slice {P : Program} {t e : TypeId} {α : Type} {d : Kd α} {ok : α -> Prop} (ht : P.underlying t = some (.slice e)) (hsz : P.cellsOf e = d.sz) {B : Nat} (hB : P.bytesOf e = B) (hu : Opens P e d ok) :
    Opens P t (Kd.slice e d) (fun xs => xs.length <= maxLen /\ xs.length * B <= 140737488351232 /\ ∀ x ∈ xs, ok x) := by
  intro H enc w base spare held fuel cs x hx hw
  rcases DataW.trod_slice ht hx with ⟨rfl, rfl⟩ | ⟨a, len, cap, elems, rest, n, _, rfl, rfl, hb, hl, hm, hlen, hel, _, _⟩
  · exact ⟨[], ⟨none, 0, rfl, Nat.le_refl _, rfl, by simp, fun h => by simp at h⟩, by simp [maxLen], by simp, fun x hx => by simp at hx⟩
  simp only [DataW.weights, ht, List.all_cons, List.all_append, Bool.and_eq_true, decide_eq_true_eq, List.length_map] at hw
  obtain ⟨hw0, hw1, _⟩ := hw
  obtain ⟨l, hll, hlp⟩ := list_of_each len (fun i (y : α) => ∃ cs', w.cells? base (a.add (i * P.cellsOf e)) (P.cellsOf e) = some cs' /\ d.K w y cs' /\ ok y) (by
    intro i hi
    have h1 := hel i hi
    have h2 : elems[i]? = some (elems[i]'(by omega)) := List.getElem?_eq_getElem (by omega)
    rw [h2] at h1
    obtain ⟨cs', hc, hy⟩ := Option.bind_eq_some_iff.1 h1
    obtain ⟨y, hk, ho⟩ := hu H enc w base spare held n cs' _ hy (by
      rw [List.all_eq_true] at hw1 ⊢
      intro z hz
      exact hw1 z (weights_all_mem (List.mem_map_of_mem (List.getElem_mem (by omega))) z hz))
    exact ⟨y, cs', hc, hk, ho⟩)
  refine ⟨l, ⟨some a, cap, by rw [hll], by omega, rfl, by rw [hll]; simp only [maxLen] at hm; omega, fun _ => ⟨a, rfl, fun j p hj => ?_⟩⟩, by omega, ?_, fun y hy => ?_⟩
  · obtain ⟨cs', hc, hk, _⟩ := hlp j p hj
    obtain ⟨_, hcl, hcc⟩ := World.cells?_some hc
    refine ⟨cs', d.K_len hk, hk, fun i u hu' => ?_⟩
    have hi : i < cs'.length := (List.getElem?_eq_some_iff.1 hu').1
    have h3 := hcc i (by omega)
    rw [hu'] at h3
    rw [<- hsz, <- addr_add]
    exact h3
  · rw [hll, <- hlen]
    have : elems.length * B <= (elems.length + rest.length) * P.bytesOf e := by rw [hB]; exact Nat.mul_le_mul_right _ (by omega)
    exact Nat.le_trans this hw0
  · obtain ⟨i, hi⟩ := List.getElem?_of_mem hy
    obtain ⟨_, _, _, ho⟩ := hlp i y hi
    exact ho
theorem opens_struct1 {P : Program} {t : TypeId} {f0 : Field} {α : Type} {d0 : Kd α} {ok0 : α -> Prop} (ht : P.underlying t = some (.struct #[f0])) (h0 : f0.offset = 0) (hs : P.cellsOf f0.type = P.cellsOf t) (hu : Opens P f0.type d0 ok0) : Opens P t d0 ok0 := by
  intro H enc w base spare held fuel cs x hx hw
  obtain ⟨y0, n, rfl, hl, h1⟩ := trod_struct1 ht hx
  rw [h0, hs, List.drop_zero, <- hl, List.take_length] at h1
  simp only [DataW.weights, ht, DataW.weightsEach, List.map_cons, List.map_nil, List.append_nil] at hw
  exact hu H enc w base spare held n cs y0 h1 hw
theorem opens_fields {P : Program} {t : TypeId} {fs : Array Field} {α : Type} {d : Kd α} {ok : α -> Prop} (ht : P.underlying t = some (.struct fs))
    (h : ∀ (H : Type) (enc : TypeId × Value -> H) (w : World) (base : Nat) (spare : Nat -> Bool) (held : Bool) (n : Nat) (cs : List Value) (xs : List (DataW H × List MemPlace)), cs.length = P.cellsOf t -> xs.length = fs.size ->
      (∀ (i : Nat) (f : Field), fs[i]? = some f -> DataW.trod enc P w base spare held n f.type ((cs.drop f.offset).take (P.cellsOf f.type)) = xs[i]?) ->
      (∀ (i : Nat) (f : Field) (x : DataW H × List MemPlace), fs[i]? = some f -> xs[i]? = some x -> (x.1.weights P f.type).all (· <= reachBytes) = true) -> ∃ y : α, d.K w y cs /\ ok y) : Opens P t d ok := by
  intro H enc w base spare held fuel cs x hx hw
  obtain ⟨xs, n, _, rfl, hl, hlen, hf⟩ := DataW.trod_struct ht hx
  refine h H enc w base spare held n cs xs hl hlen hf (fun i f x hf hx => ?_)
  simp only [DataW.weights, ht] at hw
  rw [List.all_eq_true] at hw ⊢
  intro z hz
  exact hw z (DataW.weights_mem_each (j := i) (t := f.type) (d := x.1) (by simp [hf]) (by simp [hx]) z hz)
theorem opens_struct2 {P : Program} {t : TypeId} {f0 f1 : Field} {α β : Type} {d0 : Kd α} {d1 : Kd β} {ok0 : α -> Prop} {ok1 : β -> Prop} (ht : P.underlying t = some (.struct #[f0, f1])) (hu0 : Opens P f0.type d0 ok0) (hu1 : Opens P f1.type d1 ok1)
    (h0 : f0.offset = 0) (h1 : f1.offset = P.cellsOf f0.type) (hs : P.cellsOf t = P.cellsOf f0.type + P.cellsOf f1.type) : Opens P t (Kd.pair d0 d1) (fun x => ok0 x.1 /\ ok1 x.2) := by
  refine opens_fields ht fun H enc w base spare held n cs xs hl hlen hf hw => ?_
  match xs, hlen with
  | [x0, x1], _ =>
    have a0 := hf 0 f0 rfl
    have a1 := hf 1 f1 rfl
    obtain ⟨y0, k0, o0⟩ := hu0 H enc w base spare held n _ x0 a0 (hw 0 f0 x0 rfl rfl)
    obtain ⟨y1, k1, o1⟩ := hu1 H enc w base spare held n _ x1 a1 (hw 1 f1 x1 rfl rfl)
    refine ⟨(y0, y1), ⟨_, _, ?_, k0, k1⟩, o0, o1⟩
    rw [h0, h1, List.drop_zero]
    rw [List.take_of_length_le (l := cs.drop _) (by rw [List.length_drop]; omega), List.take_append_drop]
theorem opens_struct3 {P : Program} {t : TypeId} {f0 f1 f2 : Field} {α β γ : Type} {d0 : Kd α} {d1 : Kd β} {d2 : Kd γ} {ok0 : α -> Prop} {ok1 : β -> Prop} {ok2 : γ -> Prop} (ht : P.underlying t = some (.struct #[f0, f1, f2])) (hu0 : Opens P f0.type d0 ok0) (hu1 : Opens P f1.type d1 ok1) (hu2 : Opens P f2.type d2 ok2)
    (h0 : f0.offset = 0) (h1 : f1.offset = P.cellsOf f0.type) (h2 : f2.offset = P.cellsOf f0.type + P.cellsOf f1.type) (hs : P.cellsOf t = P.cellsOf f0.type + P.cellsOf f1.type + P.cellsOf f2.type) : Opens P t (Kd.pair d0 (Kd.pair d1 d2)) (fun x => ok0 x.1 /\ ok1 x.2.1 /\ ok2 x.2.2) := by
  refine opens_fields ht fun H enc w base spare held n cs xs hl hlen hf hw => ?_
  match xs, hlen with
  | [x0, x1, x2], _ =>
    obtain ⟨y0, k0, o0⟩ := hu0 H enc w base spare held n _ x0 (hf 0 f0 rfl) (hw 0 f0 x0 rfl rfl)
    obtain ⟨y1, k1, o1⟩ := hu1 H enc w base spare held n _ x1 (hf 1 f1 rfl) (hw 1 f1 x1 rfl rfl)
    obtain ⟨y2, k2, o2⟩ := hu2 H enc w base spare held n _ x2 (hf 2 f2 rfl) (hw 2 f2 x2 rfl rfl)
    refine ⟨(y0, y1, y2), ⟨_, _, ?_, k0, ⟨_, _, rfl, k1, k2⟩⟩, o0, o1, o2⟩
    rw [h0, h1, h2, List.drop_zero]
    exact part3 cs _ _ _ (by omega)
theorem opens_struct5 {P : Program} {t : TypeId} {f0 f1 f2 f3 f4 : Field} {α0 α1 α2 α3 α4 : Type} {d0 : Kd α0} {d1 : Kd α1} {d2 : Kd α2} {d3 : Kd α3} {d4 : Kd α4} {ok0 : α0 -> Prop} {ok1 : α1 -> Prop} {ok2 : α2 -> Prop} {ok3 : α3 -> Prop} {ok4 : α4 -> Prop} (ht : P.underlying t = some (.struct #[f0, f1, f2, f3, f4]))
    (hu0 : Opens P f0.type d0 ok0) (hu1 : Opens P f1.type d1 ok1) (hu2 : Opens P f2.type d2 ok2) (hu3 : Opens P f3.type d3 ok3) (hu4 : Opens P f4.type d4 ok4)
    (h0 : f0.offset = 0) (h1 : f1.offset = P.cellsOf f0.type) (h2 : f2.offset = P.cellsOf f0.type + P.cellsOf f1.type) (h3 : f3.offset = P.cellsOf f0.type + P.cellsOf f1.type + P.cellsOf f2.type) (h4 : f4.offset = P.cellsOf f0.type + P.cellsOf f1.type + P.cellsOf f2.type + P.cellsOf f3.type)
    (hs : P.cellsOf t = P.cellsOf f0.type + P.cellsOf f1.type + P.cellsOf f2.type + P.cellsOf f3.type + P.cellsOf f4.type) : Opens P t (Kd.pair d0 (Kd.pair d1 (Kd.pair d2 (Kd.pair d3 d4)))) (fun x => ok0 x.1 /\ ok1 x.2.1 /\ ok2 x.2.2.1 /\ ok3 x.2.2.2.1 /\ ok4 x.2.2.2.2) := by
  refine opens_fields ht fun H enc w base spare held n cs xs hl hlen hf hw => ?_
  match xs, hlen with
  | [x0, x1, x2, x3, x4], _ =>
    obtain ⟨y0, k0, o0⟩ := hu0 H enc w base spare held n _ x0 (hf 0 f0 rfl) (hw 0 f0 x0 rfl rfl)
    obtain ⟨y1, k1, o1⟩ := hu1 H enc w base spare held n _ x1 (hf 1 f1 rfl) (hw 1 f1 x1 rfl rfl)
    obtain ⟨y2, k2, o2⟩ := hu2 H enc w base spare held n _ x2 (hf 2 f2 rfl) (hw 2 f2 x2 rfl rfl)
    obtain ⟨y3, k3, o3⟩ := hu3 H enc w base spare held n _ x3 (hf 3 f3 rfl) (hw 3 f3 x3 rfl rfl)
    obtain ⟨y4, k4, o4⟩ := hu4 H enc w base spare held n _ x4 (hf 4 f4 rfl) (hw 4 f4 x4 rfl rfl)
    refine ⟨(y0, y1, y2, y3, y4), ⟨_, _, ?_, k0, ⟨_, _, rfl, k1, ⟨_, _, rfl, k2, ⟨_, _, rfl, k3, k4⟩⟩⟩⟩, o0, o1, o2, o3, o4⟩
    rw [h0, h1, h2, h3, h4, List.drop_zero]
    exact part5 cs _ _ _ _ _ (by omega)
theorem opens_iso {P : Program} {t : TypeId} {α β : Type} {d : Kd α} {ok : α -> Prop} (f : β -> α) (g : α -> β) (hfg : ∀ x, f (g x) = x) (h : Opens P t d ok) : Opens P t (Kd.iso d f) (fun y => ok (f y)) := by
  intro H enc w base spare held fuel cs x hx hw
  obtain ⟨y, hy, ho⟩ := h H enc w base spare held fuel cs x hx hw
  refine ⟨g y, ?_, by show ok (f (g y)); rw [hfg]; exact ho⟩
  show d.K w (f (g y)) cs
  rw [hfg]
  exact hy
theorem Opens.arg {P : Program} {t : TypeId} {α : Type} {d : Kd α} {ok : α -> Prop} (h : Opens P t d ok) {H : Type} {enc : TypeId × Value -> H} {W : World} {base : Nat} {spare : Nat -> Bool} {held : Bool} {v : Value} {dd : DataW H} {p : List MemPlace} {ts : List TypeId} {ds : List (DataW H)} {j : Nat}
    (hsz : (DataW.weightsEach P ts ds).all (· <= reachBytes) = true) (ht : ts[j]? = some t) (hd : ds[j]? = some dd) (hT : DataW.Trod enc P W base spare held t v dd p) : ∃ y : α, d.K W y v.cells.toList /\ ok y := by
  obtain ⟨fuel, hf⟩ := hT
  refine h H enc W base spare held fuel _ _ hf ?_
  rw [List.all_eq_true] at hsz ⊢
  intro z hz
  exact hsz z (DataW.weights_mem_each ht hd z hz)
theorem opens3 : Opens Tryz.prog 3 (Kd.int .i64) ok3 := opens_int Tryz.underlying3
theorem opens22 : Opens Tryz.prog 22 (Kd.slice 3 (Kd.int .i64)) ok22 := opens_slice Tryz.underlying22 (by kernel_rfl) (B := 8) (by kernel_rfl) opens3
theorem opensT24 : Opens Tryz.prog 24 (Kd.slice 3 (Kd.int .i64)) (fun x => ok22 x) := opens_struct1 Tryz.underlying24 rfl (by kernel_rfl) opens22
theorem opens4 : Opens Tryz.prog 4 Kd.bool ok4 := opens_bool Tryz.underlying4
theorem opensT55 : Opens Tryz.prog 55 (Kd.pair Kd.bool (Kd.pair (Kd.slice 3 (Kd.int .i64)) (Kd.slice 3 (Kd.int .i64)))) (fun x => ok4 x.1 /\ ok22 x.2.1 /\ ok22 x.2.2) := opens_struct3 Tryz.underlying55 opens4 opens22 opens22 (by kernel_rfl) (by kernel_rfl) (by kernel_rfl) (by kernel_rfl)
theorem opens55 : Opens Tryz.prog 55 k55 ok55 := opens_iso (fun x : S55 => (x.f0, x.f1, x.f2)) (fun x => ⟨x.1, x.2.1, x.2.2⟩) (fun _ => rfl) opensT55
theorem opens25 : Opens Tryz.prog 25 (Kd.slice 55 k55) ok25 := opens_slice Tryz.underlying25 (by kernel_rfl) (B := 56) (by kernel_rfl) opens55
theorem opensT40 : Opens Tryz.prog 40 (Kd.pair (Kd.int .i64) (Kd.pair (Kd.int .i64) (Kd.pair (Kd.int .i64) (Kd.pair (Kd.int .i64) (Kd.int .i64))))) (fun x => ok3 x.1 /\ ok3 x.2.1 /\ ok3 x.2.2.1 /\ ok3 x.2.2.2.1 /\ ok3 x.2.2.2.2) := opens_struct5 Tryz.underlying40 opens3 opens3 opens3 opens3 opens3 (by kernel_rfl) (by kernel_rfl) (by kernel_rfl) (by kernel_rfl) (by kernel_rfl) (by kernel_rfl)
end Go.Proofs.YtcipakpifklipaaGreat.G
