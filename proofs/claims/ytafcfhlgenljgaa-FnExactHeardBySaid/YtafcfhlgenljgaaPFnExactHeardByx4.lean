-- Laid by xprint, a program of this session that runs over the kit's print.
import Derived.Test.YtafcfhlgenljgaaPFnExactHeardByx0
import Derived.Test.YtafcfhlgenljgaaPFnExactHeardByx3
namespace Go.Proofs.Ytafcfhlgenljgaa.PFnExactHeardBy
open Go.RowKit Go.Proofs.YtafcfhlgenljgaaW.PrintWords Go.Proofs.YtafcfhlgenljgaaW.PrintLast Go.Proofs.YtafcfhlgenljgaaW.PrintMore Go.Proofs.Ytafcfhlgenljgaa.Sq
attribute [local go_sem] max2_int min2_int max_two min_two max_three min_three max_four min_four   -- for this text's walks alone
set_option linter.unusedVariables false
set_option linter.unusedSimpArgs false

/-! ### slices_Repeat_int_int: function 54 -/
theorem slices_Repeat_int_int_set {B t : Nat} (v : Value) : ∀ (m n r : Nat) (W : World), W.heap[B]? = some (.cells (List.replicate n v ++ List.replicate (m + r) (Value.int .i64 0)).toArray t (0, 0)) → (W.setCells B n (List.replicate m v)).heap[B]? = some (.cells (List.replicate (n + m) v ++ List.replicate r (Value.int .i64 0)).toArray t (0, 0))
  | 0, n, r, W, h => by simpa [World.setCells] using h
  | m + 1, n, r, W, h => by
    rw [List.replicate_succ, World.setCells]
    have h1 := blk_set h n v
    have e : (List.replicate n v ++ List.replicate (m + 1 + r) (Value.int .i64 0)).toArray.setIfInBounds n v = (List.replicate (n + 1) v ++ List.replicate (m + r) (Value.int .i64 0)).toArray := by
      rw [show m + 1 + r = (m + r) + 1 by omega, List.replicate_succ (n := m + r)]
      simp [List.replicate_succ', List.set_append]
    rw [e] at h1
    have := slices_Repeat_int_int_set v m (n + 1) r _ h1
    rwa [show n + (m + 1) = n + 1 + m by omega]
theorem slices_Repeat_int_int_below {b0 : Nat} {w0 : World} {B : Nat} (hB : b0 ≤ B) : ∀ (vs : List Value) (o : Nat) (W : World), Below b0 w0 W → Below b0 w0 (W.setCells B o vs)
  | [], _, _, h => h
  | v :: r, o, W, h => by
    rw [World.setCells]
    exact slices_Repeat_int_int_below hB r (o + 1) _ (h.setCell hB v)
theorem slices_Repeat_int_int_run {P : Program} {t e : TypeId} (hu : P.underlying t = some (.slice e)) (hs : (P.info? e).map (·.size) = some 1) (v : Int) (m n r d cd ls cs : Nat) (ty : TypeId) (ad : Addr) (W : World) (B e0 : Nat)
    (h : W.heap[B]? = some (.cells (List.replicate n (Value.int .i64 v) ++ List.replicate (m + r) (Value.int .i64 0)).toArray e0 (0, 0))) (hd : d = m + r) (hm : m = Nat.min ls d) (hsrc : ∀ j, j < m → W.cell? (ad.add j) = some (.int .i64 v)) :
    (Builtin.copy_ #[t, t] ty #[.slice (some ⟨B, n, none⟩) d cd, .slice (some ad) ls cs]).run P W = .ok (.int .i64 m) (W.setCells B n (List.replicate m (.int .i64 v))) := by
  have := run_copy_cells (P := P) W t t ty e B n d cd ad ls cs (List.replicate m (.int .i64 v)) hu hs (by simpa using hm)
    (fun j u hj => by
      have hj' := List.getElem?_eq_some_iff.1 hj
      obtain ⟨h1, h2⟩ := hj'
      simp at h1 h2
      rw [hsrc j h1, h2])
    (fun j hj => by
      simp at hj
      rw [blk_cell h]
      simp
      omega)
    (fun j hj => blk_frozen h _) (fun u hu => by rw [List.eq_of_mem_replicate hu]; rfl)
  simpa [goInt] using this
def slices_Repeat_int_int.f (l0 : List Int) (a1 : Int) : Option (List Int) := (bits_Mul.f (l0.length : Int) a1).bind fun q => if l0.length = 1 ∧ 1 ≤ a1 ∧ a1 < 1099511627776 ∧ q = (0, a1) then some (List.replicate a1.toNat (rd l0 0)) else none
theorem slices_Repeat_int_int_own (W : World) (base B c e : Nat) (v : Int) (hB : base ≤ B) (hc : c ≤ 9223372036854775807) (h : W.heap[B]? = some (.cells (List.replicate c (Value.int .i64 v)).toArray e (0, 0))) :
    Kd.R (Kd.int .i64) e W base (fun _ => True) (.slice (some ⟨B, 0, none⟩) c c) (List.replicate c v) := by
  refine ⟨fun _ _ => trivial, List.replicate c (.int .i64 v), ⟨by simp [Kd.int, Kd.scalar], .inr ⟨B, c, _, by simp, hB, h, ?_⟩⟩, by simp [Kd.int, Kd.scalar], ?_⟩
  · simp [maxLen, Kd.int, Kd.scalar]
    omega
  · intro j p hj
    have hj' := List.getElem?_eq_some_iff.1 hj
    obtain ⟨h1, h2⟩ := hj'
    simp at h1 h2
    simp [Kd.int, Kd.scalar, ← h2]
    rw [show min 1 (c - j) = 0 + 1 by omega]
    rfl
set_option maxHeartbeats 8000000 in
set_option maxRecDepth 100000 in
theorem slices_Repeat_int_int.calls (A0 : Option Addr) (c0 : Nat) (l0 : List Int) (a1 : Int) (r : List Int) (w : World) (hr0 : Kd.C (Kd.int .i64) w A0 l0.length l0) (hc0 : l0.length ≤ c0) (h : slices_Repeat_int_int.f l0 a1 = some r) :
  Calls Try.prog 54 #[.slice A0 l0.length c0, .int .i64 a1] w fun e w' => ∃ v0_ : Value, e = .returned (v0_) ∧ Kd.R (Kd.int .i64) 3 w' w.heap.size (fun _ => True) v0_ r ∧ Below w.heap.size w w' := by
 have HR0 := Aside0.mk hr0
 clear hr0
 have HB := Aside0.mk (Below.refl w.heap.size w)
 replace h := Option.bind_eq_some_iff.mp h
 obtain ⟨q, Aq0, h⟩ := h
 by_cases hcond : l0.length = 1 ∧ 1 ≤ a1 ∧ a1 < 1099511627776 ∧ q = (0, a1)
 ·rw [if_pos hcond] at h
  obtain ⟨hl, hlo, hhi, rfl⟩ := hcond
  obtain rfl := Option.some.inj h
  clear h
  rw [hl] at Aq0
  have Aq := Aside0.mk (show bits_Mul.f 1 a1 = some (0, a1) from Aq0)
  clear Aq0
  obtain ⟨ad, e1, hx0⟩ := Kd.at_int HR0.out 0 (by omega) (by omega)
  cases e1
  obtain ⟨v, hv⟩ : ∃ v, v = rd l0 0 := ⟨_, rfl⟩
  rw [← hv] at hx0 ⊢
  rw [hl] at hc0 ⊢
  obtain ⟨c, rfl⟩ : ∃ c : Nat, a1 = (c : Int) := ⟨a1.toNat, by omega⟩
  have mixed : Try.prog.follows Departure.mixedOrders = true := by kernel_rfl
  have hmk := print_make (P := Try.prog) 24 3 .i64 8 Try.underlying24 (by kernel_rfl) (by omega) c (by omega)
  have hz : (madeCells #[Value.int .i64 0] c) = (List.replicate 0 (Value.int .i64 v) ++ List.replicate (1 + (c - 1)) (Value.int .i64 0)).toArray := by
   apply Array.ext
   ·simp [madeCells]
    omega
   ·intro i h1 h2
    simp [madeCells, Nat.mod_one]
  have hlt := World.block_lt_of_cell? w _ hx0
  have HZ := Aside0.mk hz
  have HX := Aside0.mk hx0
  have HM := Aside0.mk hmk
  have HV := Aside0.mk hv
  have p1 : decide ((c : Int) < 0) = false := decide_eq_false (by omega)
  have p2 : decide ((9223372036854775807 : Int) < (c : Int)) = false := decide_eq_false (by omega)
  have p3 : IntKind.u64.wrap (c : Int) = c := by have e64 : IntKind.u64.bits = 64 := rfl; simp [IntKind.wrap, e64, IntKind.signed]; omega
  have HC := Aside0.mk hc0
  have HLO := Aside0.mk hlo
  have HHI := Aside0.mk hhi
  have HL := Aside0.mk hl
  clear hz hx0 hmk hv hlt hc0 hlo hhi hl
  go_enter Try.func54, Try.ntmps54
  have p4 : wrap64 (c : Int) = c := by have := HLO.out; have := HHI.out; unfold wrap64; omega
  have hblk : ∀ n1, ((w.drewN n1).alloc (.cells (madeCells #[Value.int .i64 0] c) 3)).heap[w.heap.size]? = some (.cells (List.replicate 0 (Value.int .i64 v) ++ List.replicate (1 + (c - 1)) (Value.int .i64 0)).toArray 3 (0, 0)) := fun n1 => (blk_new (w.drewN n1) _).trans (by rw [HZ.out])
  have hcp1 := fun n1 => slices_Repeat_int_int_run (P := Try.prog) Try.underlying24 (by kernel_rfl) v 1 0 (c - 1) c c 1 c0 3 ad ((w.drewN n1).alloc (.cells (madeCells #[Value.int .i64 0] c) 3)) w.heap.size 3 (hblk n1) (by have := HLO.out; omega) (by have := HLO.out; simp only [Nat.min_def]; split <;> omega) (fun j hj => by obtain rfl : j = 0 := (by omega); exact ((below_alloc (pw_below_drewN HB.out _) _).cell (World.block_lt_of_cell? w _ HX.out)).trans HX.out)
  have HB1 := fun n1 => Aside0.mk (slices_Repeat_int_int_below (b0 := w.heap.size) (w0 := w) (Nat.le_refl _) (List.replicate 1 (Value.int .i64 v)) 0 _ (below_alloc (pw_below_drewN HB.out n1) (.cells (madeCells #[Value.int .i64 0] c) 3)))
  have HS1 := fun n1 => Aside0.mk (slices_Repeat_int_int_set (Value.int .i64 v) 1 0 (c - 1) _ (hblk n1))
  have HCP := Aside0.mk hcp1
  have HBK := Aside0.mk hblk
  clear hcp1 hblk
  go_wp2_with (first | (go_at_call 56; (with_reducible refine (bits_Mul.calls 1 c 0 c _ Aq.out).mono ?_); rintro e w' ⟨rfl, ⟨n1, rfl⟩⟩) | simp only [p4, HM.out] | simp only [HCP.out])
  go_loopg [8] c (fun kq v8 w' => ∃ n : Nat, v8 = .int .i64 (n : Int) ∧ Aside0 (1 ≤ n ∧ n ≤ c) ∧ Aside0 (c - n ≤ kq) ∧ Aside0 (w'.heap[w.heap.size]? = some (.cells (List.replicate n (Value.int .i64 v) ++ List.replicate (c - n) (Value.int .i64 0)).toArray 3 (0, 0))) ∧ Aside0 (Below w.heap.size w w'))
  case atStart => exact ⟨1, rfl, ⟨by have := HLO.out; omega⟩, ⟨by omega⟩, ⟨(HS1 _).out⟩, HB1 _⟩
  case round =>
   clear HB HB1 HS1 HCP HBK
   obtain ⟨n, rfl, HN, HK1, HBK, HB⟩ := hrel
   by_cases c4 : (n : Int) < (c : Int)
   ·have c4b0 : decide ((n : Int) < (c : Int)) = true := decide_eq_true c4
    cases gk with
    | zero => exact absurd HK1.out (by omega)
    | succ k1 =>
     obtain ⟨m, hm⟩ : ∃ m, m = Nat.min n (c - n) := ⟨_, rfl⟩
     have hm1 : 1 ≤ m ∧ n + m ≤ c := by have := HN.out; simp only [hm, Nat.min_def]; split <;> omega
     have hcp2 := fun n1 => slices_Repeat_int_int_run (P := Try.prog) Try.underlying24 (by kernel_rfl) v m n (c - n - m) (c - n) (c - n) n c 3 ⟨w.heap.size, 0, none⟩ (World.drewN ‹World› n1) w.heap.size 3 (by have := HBK.out; rw [show m + (c - n - m) = c - n by omega]; exact this) (by omega) hm (fun j hj => by rw [add_plain]; have hjn : j < n := (by have : m ≤ n := hm ▸ Nat.min_le_left _ _; omega); refine (blk_cell (w := World.drewN ‹World› n1) HBK.out j).trans ?_; simp [List.getElem?_append, hjn])
     have q1 : ((n : Int)).toNat = n := by omega
     have q2 : (n : Int) ≤ (c : Int) := by omega
     have q3 : ¬ (c = n) := by omega
     have q4 : (0 : Int) ≤ (n : Int) := by omega
     have q5 : IntKind.i64.wrap ((n : Int) + (m : Int)) = ((n + m : Nat) : Int) := by have := HHI.out; have e64 : IntKind.i64.bits = 64 := rfl; simp [IntKind.wrap, e64, IntKind.signed]; omega
     have HB2 := fun n1 => Aside0.mk (slices_Repeat_int_int_below (b0 := w.heap.size) (w0 := w) (Nat.le_refl _) (List.replicate m (Value.int .i64 v)) n _ (pw_below_drewN HB.out n1))
     have HS2 := fun n1 => Aside0.mk (slices_Repeat_int_int_set (B := w.heap.size) (t := 3) (Value.int .i64 v) m n (c - n - m) (World.drewN ‹World› n1) (by have := HBK.out; rw [show m + (c - n - m) = c - n by omega]; exact this))
     have HCP2 := Aside0.mk hcp2
     have HM1 := Aside0.mk hm1
     clear hcp2 hm hm1 c4
     go_wp2
     go_region_law_o (refine step_copy_runI rfl _ _ 24 24 rfl _ _ (by simp [Act.eval, Act.put]) (by simp [Act.eval, Act.put]) (HCP2.out _) ?_)
     go_wp2
     go_roundg k1
     case measure => have := HK1.out; have := HM1.out; omega
     case rel => exact ⟨n + m, (by first | rfl | exact congrArg _ q5), ⟨by have := HN.out; have := HM1.out; omega⟩, ⟨by have := HK1.out; have := HM1.out; omega⟩, ⟨by have := (HS2 1).out; rw [show c - n - m = c - (n + m) by omega] at this; exact this⟩, HB2 1⟩
   ·have c4b0 : decide ((n : Int) < (c : Int)) = false := decide_eq_false c4
    obtain rfl : n = c := by have := HN.out; omega
    have HR := fun n1 => Aside0.mk (slices_Repeat_int_int_own (World.drewN ‹World› n1) w.heap.size w.heap.size n 3 v (Nat.le_refl _) (by have := HHI.out; omega) (by have := HBK.out; simpa using this))
    clear c4
    go_wp2
    go_ret
    exact ⟨_, rfl, (HR 0).out, HB.out⟩
 ·rw [if_neg hcond] at h
  exact absurd h (by simp)

/-! ### impl_heard: function 43 -/
mutual
def impl_heard.l0 : Nat → Int → List Int → List (S27) → Int → Int → Option (List Int)
  | 0, _, _, _, _, _ => none
  | k + 1, x0, x5, x14, x15, x16 => if x16 < x15 then (if 0 ≤ x16 then (if x16 < (x14.length : Int) then ((impl_around.f x0).bind fun t160 => (impl_heard.l1 k x0 x5 x14 x15 x16 t160 0 ((rd_T27 x14 x16).f0) ((rd_T27 x14 x16).f1) ((rd_T27 x14 x16).f2))) else (none)) else (none)) else (some x5)
def impl_heard.l1 : Nat → Int → List Int → List (S27) → Int → Int → Int → Int → Int → Bool → Int → Option (List Int)
  | 0, _, _, _, _, _, _, _, _, _, _ => none
  | k + 1, x0, x5, x14, x15, x16, x21, x22, x160000, x160001, x160002 => if x22 < x21 then ((impl_Signal_place.f x160000 x160001 x160002 x0 (wrap64 (x22 * x160002))).bind fun t161 => (if 0 ≤ t161 then (if t161 < (x5.length : Int) then (if (rd x5 t161) < 0 then (impl_heard.l1 k x0 (x5.set (t161 : Int).toNat (wrap64 (x22 * x160002))) x14 x15 x16 x21 (wrap64 (x22 + 1)) x160000 x160001 x160002) else (if (wrap64 (x22 * x160002)) < (rd x5 t161) then (impl_heard.l1 k x0 (x5.set (t161 : Int).toNat (wrap64 (x22 * x160002))) x14 x15 x16 x21 (wrap64 (x22 + 1)) x160000 x160001 x160002) else (impl_heard.l1 k x0 x5 x14 x15 x16 x21 (wrap64 (x22 + 1)) x160000 x160001 x160002))) else (none)) else (none))) else (impl_heard.l0 k x0 x5 x14 x15 (wrap64 (x16 + 1)))
end
def impl_heard.f (k : Nat) (a0 : Int) (l1 : List (S27)) : Option (List Int) := (slices_Repeat_int_int.f (([(-1)] : List Int)) a0).bind fun t155 => (impl_heard.l0 k a0 t155 l1 (l1.length : Int) 0)
theorem impl_heard.mono_l : ∀ k, (∀ y0 y1 y2 y3 y4, LeO (impl_heard.l0 k y0 y1 y2 y3 y4) (impl_heard.l0 (k + 1) y0 y1 y2 y3 y4)) ∧ (∀ y0 y1 y2 y3 y4 y5 y6 y7 y8 y9, LeO (impl_heard.l1 k y0 y1 y2 y3 y4 y5 y6 y7 y8 y9) (impl_heard.l1 (k + 1) y0 y1 y2 y3 y4 y5 y6 y7 y8 y9))
  | 0 => ⟨fun _ _ _ _ _ r h => by simp [impl_heard.l0] at h, fun _ _ _ _ _ _ _ _ _ _ r h => by simp [impl_heard.l1] at h⟩
  | k + 1 => by
    obtain ⟨ih0, ih1⟩ := impl_heard.mono_l k
    refine ⟨?_, ?_⟩
    · intro y0 y1 y2 y3 y4
      unfold impl_heard.l0
      repeat' first
      | (with_reducible exact ih0 _ _ _ _ _)
      | (with_reducible exact ih1 _ _ _ _ _ _ _ _ _ _)
      | (with_reducible exact LeO.refl _)
      | (with_reducible exact LeO.none _)
      | (with_reducible refine LeO.ite ?_ ?_)
      | (with_reducible refine LeO.bind ?_ (fun _ => ?_))
      | exact ih0 _ _ _ _ _
      | exact ih1 _ _ _ _ _ _ _ _ _ _
      | exact LeO.none _
      | refine LeO.ite ?_ ?_
      | refine LeO.bind ?_ (fun _ => ?_)
    · intro y0 y1 y2 y3 y4 y5 y6 y7 y8 y9
      unfold impl_heard.l1
      repeat' first
      | (with_reducible exact ih0 _ _ _ _ _)
      | (with_reducible exact ih1 _ _ _ _ _ _ _ _ _ _)
      | (with_reducible exact LeO.refl _)
      | (with_reducible exact LeO.none _)
      | (with_reducible refine LeO.ite ?_ ?_)
      | (with_reducible refine LeO.bind ?_ (fun _ => ?_))
      | exact ih0 _ _ _ _ _
      | exact ih1 _ _ _ _ _ _ _ _ _ _
      | exact LeO.none _
      | refine LeO.ite ?_ ?_
      | refine LeO.bind ?_ (fun _ => ?_)
theorem impl_heard.mono : ∀ a0 a1 k, LeO (impl_heard.f k a0 a1) (impl_heard.f (k + 1) a0 a1) := by
  intro a0 a1 k
  obtain ⟨ih0, ih1⟩ := impl_heard.mono_l k
  unfold impl_heard.f
  repeat' first
      | (with_reducible exact ih0 _ _ _ _ _)
      | (with_reducible exact ih1 _ _ _ _ _ _ _ _ _ _)
      | (with_reducible exact LeO.refl _)
      | (with_reducible exact LeO.none _)
      | (with_reducible refine LeO.ite ?_ ?_)
      | (with_reducible refine LeO.bind ?_ (fun _ => ?_))
      | exact ih0 _ _ _ _ _
      | exact ih1 _ _ _ _ _ _ _ _ _ _
      | exact LeO.none _
      | refine LeO.ite ?_ ?_
      | refine LeO.bind ?_ (fun _ => ?_)
set_option maxHeartbeats 8000000 in
set_option maxRecDepth 100000 in
theorem impl_heard.calls (k : Nat) (a0 : Int) (A1 : Option Addr) (c1 : Nat) (l1 : List (S27)) (r : List Int) (w : World) (hr1 : Kd.C k27 w A1 l1.length l1) (hc1 : l1.length ≤ c1) (h : impl_heard.f k a0 l1 = some r) :
  Calls Try.prog 43 #[.int .i64 a0, .slice A1 l1.length c1] w fun e w' => ∃ v0_ : Value, e = .returned (v0_) ∧ Kd.R (Kd.int .i64) 3 w' w.heap.size (fun _ => True) v0_ r ∧ Below w.heap.size w w' := by
 have hu27 := Try.underlying27
 have HR1 := Aside0.mk hr1
 have HC1 := Aside0.mk hc1
 clear hr1 hc1
 have HB := Aside0.mk (Below.refl w.heap.size w)
 unfold impl_heard.f at h
 have H := h
 clear h
 obtain ⟨y152, hy152⟩ : ∃ y_ : List Int, y_ = (([(-1)] : List Int)) := ⟨_, rfl⟩
 replace H : ((slices_Repeat_int_int.f y152 a0).bind fun t155 => (impl_heard.l0 k a0 t155 l1 (l1.length : Int) 0)) = some r := by first | (rw [hy152]; with_reducible exact H) | (have H2_ := (Option.bind_some _ _).symm.trans H; rw [hy152]; with_reducible exact H2_) | (have H2_ := (Option.bind_some _ _).symm.trans H; with_reducible exact H2_) | with_reducible exact H | (rw [hy152]; exact H) | exact H
 have Ny152 := Aside0.mk hy152
 clear hy152
 replace H := Option.bind_eq_some_iff.mp H
 obtain ⟨t155, A30, H⟩ := H
 (try dsimp only at H)
 have A3 := Aside0.mk A30
 clear A30
 have H' := Aside0.mk H
 clear H
 go_enter Try.func43, Try.ntmps43
 go_wp2_with (first | ((with_reducible refine gate_dst (N := 11) rfl ?_); refine Kd.R_lit (Kd.int .i64) _ 3 ?hg (N := 11) ?hd (xs := ([(-1)] : List Int)) (inner := [.int .i64 (-1)]) (ok := fun _ => True) (okp := fun _ => True) ?hr ?hp (fun _ hk => hk) trivial (Below.refl _ _) (Nat.le_refl _) (by simp) ?_; (case hd => rfl); (case hg => rfl); (case hr => first | (go_simp; done) | (go_simp; rfl)); (case hp => exact (Reps.one (show Kd.M (Kd.int .i64) _ _ _ (-1) [.int .i64 (-1)] from rfl) (Reps.none _ _))); intro v153 w4 ho5 hb hg_ hnew_; clear hg_ hnew_; (first | rw [← Ny152.out] at ho5 | (simp only [Int.reduceToNat] at ho5; rw [← Ny152.out] at ho5)); have HO154 := Aside0.mk (Kd.R_lower ho5 (below_size bw)); replace HB := bs hb; clear hb ho5; obtain ⟨Ao6, co6, eo6⟩ := Kd.R_slice HO154.out; subst eo6) | ((with_reducible refine gate_callee (f := 54) rfl ?_); refine gl (some 13) Try.func54 #[.slice Ao6 y152.length co6, .int .i64 a0] ?_; (with_reducible refine (slices_Repeat_int_int.calls _ _ y152 a0 t155 _ ?side1 ?side2 A3.out).mono ?_); (case side1 => repeat (first | exact (Kd.R_reads' HO154.out).2.2 | (with_reducible refine Kd.C_alloc ?_ _) | (with_reducible refine Kd.C_drewN ?_ _) | (with_reducible refine Kd.C_drew ?_))); (case side2 => exact (Kd.R_reads' HO154.out).2.1); rintro e w7 ⟨v156, rfl, ho0, hb⟩; refine ⟨_, rfl, ?_⟩; have HO157 := Aside0.mk (Kd.R_lower (Kd.R_new' ho0 (Kd.R_lt (pr HO154))) (below_size bw)); replace HO154 := Aside0.mk (Kd.R_elder' (pr HO154) (Kd.R_base ho0) hb); replace HB := bs hb; (try clear hb); (try clear ho0)))
 go_loopg [16] k (fun kq v16 w' => ∃ (x5_1 : List Int) (x16_1 : Int), v16 = .int .i64 x16_1 ∧ Aside0 (impl_heard.l0 kq a0 x5_1 l1 (l1.length : Int) x16_1 = some r) ∧ Aside0 (kq ≤ k) ∧ Aside0 (Kd.R (Kd.int .i64) 3 w' w.heap.size (fun _ => True) v156 x5_1) ∧ Aside0 (Below w.heap.size w w'))
 case atStart => exact ⟨(t155), (0), (rs), H', ⟨Nat.le_refl _⟩, ⟨by (with_reducible repeat (first | apply Kd.R_alloc | apply Kd.R_drewN | apply Kd.R_drew)); exact Kd.R_mono HO157.out (fun _ hk => trivial)⟩, ⟨bw⟩⟩
 case round =>
  clear H'
  try clear c1
  try clear p2
  try clear c4
  try clear c5
  obtain ⟨x5_1, x16_1, rfl, HA, HK1, HO_5, HB⟩ := hrel
  cases gk with
  | zero => exact absurd HA.out (by simp [impl_heard.l0])
  | succ k1 =>
   have H := HA.out
   clear HA
   simp only [impl_heard.l0] at H
   by_cases c8 : x16_1 < (l1.length : Int)
   ·rw [if_pos c8] at H
    have c8b0 : decide (x16_1 < (l1.length : Int)) = true := decide_eq_true c8
    clear c8
    by_cases c9 : 0 ≤ x16_1
    ·rw [if_pos c9] at H
     have c9b0 : decide (0 ≤ x16_1) = true := decide_eq_true c9
     clear c9
     by_cases c10 : x16_1 < (l1.length : Int)
     ·rw [if_pos c10] at H
      have c10b0 : decide (x16_1 < (l1.length : Int)) = true := decide_eq_true c10
      clear c10
      replace H := Option.bind_eq_some_iff.mp H
      obtain ⟨t160, A110, H⟩ := H
      (try dsimp only at H)
      have A11 := Aside0.mk A110
      clear A110
      have H' := Aside0.mk H
      clear H
      have p158 : 0 ≤ (x16_1 : Int) := of_decide_eq_true (by first | (with_reducible assumption) | assumption)
      have q158 : x16_1 < (l1.length : Int) := of_decide_eq_true (by first | (with_reducible assumption) | assumption)
      obtain ⟨ad158, e158, hx158_0, hx158_1, hx158_2⟩ := at_T27 HR1.out x16_1 p158 q158
      cases e158
      replace hx158_0 := (HB.out.cell (World.block_lt_of_cell? w _ hx158_0)).trans hx158_0
      replace hx158_1 := (HB.out.cell (World.block_lt_of_cell? w _ hx158_1)).trans hx158_1
      replace hx158_2 := (HB.out.cell (World.block_lt_of_cell? w _ hx158_2)).trans hx158_2
      replace p158 := eq_true p158
      replace q158 := eq_true q158
      go_wp2_with (first | ((with_reducible refine gate_dst (N := 7) rfl ?_); refine bx 7 27 #[.int .i64 0, .bool false, .int .i64 0] ?_; intro gb159 hg w12 hbox hb; replace HO_5 := Aside0.mk (Kd.R_below (pr HO_5) hb); have BK159 := hbox; have GW159 := gs hg; have GE159 := gs hg; replace HB := bs hb; clear hb hbox hg; have hcz13_0 := bc BK159 0 (.int .i64 0); have hcz13_1 := bc BK159 1 (.bool false); have hcz13_2 := bc BK159 2 (.int .i64 0); have hfz13_0 := blk_frozen BK159.out 0; have hfz13_1 := blk_frozen BK159.out 1; have hfz13_2 := blk_frozen BK159.out 2) | ((with_reducible refine gate_callee (f := 48) rfl ?_); refine gl (some 21) Try.func48 #[.int .i64 a0] ?_; (with_reducible refine (impl_around.calls a0 t160 _ A11.out).mono ?_); rintro e w14 ⟨rfl, hb⟩; refine ⟨_, rfl, ?_⟩; replace HO_5 := Aside0.mk (Kd.R_below (by (with_reducible repeat (first | apply Kd.R_alloc | apply Kd.R_drewN | apply Kd.R_drew)); exact (Kd.R_mono (Kd.R_far (p := ⟨gb159, 2, none⟩) (Kd.R_far (p := ⟨gb159, 1, none⟩) (Kd.R_far (p := ⟨gb159, 0, none⟩) (Kd.R_types HO_5.out BK159.out (by decide)) (fun _ hk => hk.2) (.int .i64 ((rd_T27 l1 x16_1).f0))) (fun _ hk => hk.2) (.bool ((rd_T27 l1 x16_1).f1))) (fun _ hk => hk.2) (.int .i64 ((rd_T27 l1 x16_1).f2))) (fun _ h_ => h_.1))) hb); replace BK159 := Aside0.mk (blk_below (g := gb159) (o := .cells #[.int .i64 ((rd_T27 l1 x16_1).f0), .bool ((rd_T27 l1 x16_1).f1), .int .i64 ((rd_T27 l1 x16_1).f2)] 27 (0, 0)) (by (with_reducible repeat (first | refine blk_drewN ?_ _ | refine blk_drew ?_ | refine blk_alloc ?_ _)); refine blk_put (cs := #[.int .i64 ((rd_T27 l1 x16_1).f0), .bool ((rd_T27 l1 x16_1).f1), .int .i64 0]) ?_ 2 _ rfl; (with_reducible repeat (first | refine blk_drewN ?_ _ | refine blk_drew ?_ | refine blk_alloc ?_ _)); refine blk_put (cs := #[.int .i64 ((rd_T27 l1 x16_1).f0), .bool false, .int .i64 0]) ?_ 1 _ rfl; (with_reducible repeat (first | refine blk_drewN ?_ _ | refine blk_drew ?_ | refine blk_alloc ?_ _)); refine blk_put (cs := #[.int .i64 0, .bool false, .int .i64 0]) ?_ 0 _ rfl; (with_reducible repeat (first | refine blk_drewN ?_ _ | refine blk_drew ?_ | refine blk_alloc ?_ _)); exact BK159.out) hb); replace HB := bs hb; (try clear hb)))
      go_loopg [22] k1 (fun kq v22 w' => ∃ (x5_2 : List Int) (x22_2 : Int), v22 = .int .i64 x22_2 ∧ Aside0 (impl_heard.l1 kq a0 x5_2 l1 (l1.length : Int) x16_1 t160 x22_2 ((rd_T27 l1 x16_1).f0) ((rd_T27 l1 x16_1).f1) ((rd_T27 l1 x16_1).f2) = some r) ∧ Aside0 (kq ≤ k1) ∧ Aside0 (Kd.R (Kd.int .i64) 3 w' w.heap.size (fun _ => True) v156 x5_2) ∧ Aside0 (w'.heap[gb159]? = some (.cells #[.int .i64 ((rd_T27 l1 x16_1).f0), .bool ((rd_T27 l1 x16_1).f1), .int .i64 ((rd_T27 l1 x16_1).f2)] 27 (0, 0))) ∧ Aside0 (Below w.heap.size w w'))
      case atStart => exact ⟨(x5_1), (0), (rs), H', ⟨Nat.le_refl _⟩, ⟨pr HO_5⟩, ⟨pk BK159⟩, ⟨bw⟩⟩
      case round =>
       clear H'
       try clear c1
       try clear p1
       try clear q1
       try clear hx1
       try clear p2
       try clear c4
       try clear c5
       try clear c8
       try clear c8b0
       try clear c9
       try clear c9b0
       try clear c10
       try clear c10b0
       try clear hcz13_0
       try clear hcz13_1
       try clear hcz13_2
       try clear hfz13_0
       try clear hfz13_1
       try clear hfz13_2
       try clear hx158_0
       try clear hx158_1
       try clear hx158_2
       try clear p158
       try clear p2
       try clear q158
       obtain ⟨x5_2, x22_2, rfl, HA, HK2, HO_5, BK159, HB⟩ := hrel
       cases gk with
       | zero => exact absurd HA.out (by simp [impl_heard.l1])
       | succ k2 =>
        have H := HA.out
        clear HA
        simp only [impl_heard.l1] at H
        by_cases c15 : x22_2 < t160
        ·rw [if_pos c15] at H
         have c15b0 : decide (x22_2 < t160) = true := decide_eq_true c15
         clear c15
         replace H := Option.bind_eq_some_iff.mp H
         obtain ⟨t161, A160, H⟩ := H
         (try dsimp only at H)
         have A16 := Aside0.mk A160
         clear A160
         by_cases c17 : 0 ≤ t161
         ·rw [if_pos c17] at H
          have c17b0 : decide (0 ≤ t161) = true := decide_eq_true c17
          clear c17
          by_cases c18 : t161 < (x5_2.length : Int)
          ·rw [if_pos c18] at H
           have c18b0 : decide (t161 < (x5_2.length : Int)) = true := decide_eq_true c18
           clear c18
           by_cases c19 : (rd x5_2 t161) < 0
           ·rw [if_pos c19] at H
            have c19b0 : decide ((rd x5_2 t161) < 0) = true := decide_eq_true c19
            clear c19
            obtain ⟨y163, hy163⟩ : ∃ y_ : List Int, y_ = (x5_2.set (t161 : Int).toNat (wrap64 (x22_2 * ((rd_T27 l1 x16_1).f2)))) := ⟨_, rfl⟩
            replace H : (impl_heard.l1 k2 a0 y163 l1 (l1.length : Int) x16_1 t160 (wrap64 (x22_2 + 1)) ((rd_T27 l1 x16_1).f0) ((rd_T27 l1 x16_1).f1) ((rd_T27 l1 x16_1).f2)) = some r := by first | (rw [hy163]; with_reducible exact H) | (have H2_ := (Option.bind_some _ _).symm.trans H; rw [hy163]; with_reducible exact H2_) | (have H2_ := (Option.bind_some _ _).symm.trans H; with_reducible exact H2_) | with_reducible exact H | (rw [hy163]; exact H) | exact H
            have Ny163 := Aside0.mk hy163
            clear hy163
            have H' := Aside0.mk H
            clear H
            have hcz21_0 : wr.cell? ⟨gb159, 0, none⟩ = some (.int .i64 ((rd_T27 l1 x16_1).f0)) := ec BK159
            have hcz21_1 : wr.cell? ⟨gb159, 1, none⟩ = some (.bool ((rd_T27 l1 x16_1).f1)) := ec BK159
            have hcz21_2 : wr.cell? ⟨gb159, 2, none⟩ = some (.int .i64 ((rd_T27 l1 x16_1).f2)) := ec BK159
            have hfz21_0 := blk_frozen BK159.out 0
            have hfz21_1 := blk_frozen BK159.out 1
            have hfz21_2 := blk_frozen BK159.out 2
            go_wp2_with (first | ((with_reducible refine gate_callee (f := 31) rfl ?_); refine gl (some 32) Try.func31 #[.agg #[.int .i64 ((rd_T27 l1 x16_1).f0), .bool ((rd_T27 l1 x16_1).f1), .int .i64 ((rd_T27 l1 x16_1).f2)], .int .i64 a0, .int .i64 (wrap64 (x22_2 * ((rd_T27 l1 x16_1).f2)))] ?_; (with_reducible refine (impl_Signal_place.calls ((rd_T27 l1 x16_1).f0) ((rd_T27 l1 x16_1).f1) ((rd_T27 l1 x16_1).f2) a0 (wrap64 (x22_2 * ((rd_T27 l1 x16_1).f2))) t161 _ A16.out).mono ?_); rintro e w22 ⟨rfl, hb⟩; refine ⟨_, rfl, ?_⟩; replace HO_5 := Aside0.mk (Kd.R_below (pr HO_5) hb); replace BK159 := nk BK159 hb; replace HB := bs hb; (try clear hb); obtain ⟨Ao23, co23, eo23⟩ := Kd.R_slice HO_5.out; subst eo23; have p162 : 0 ≤ (t161 : Int) := of_decide_eq_true (by first | (with_reducible assumption) | assumption); have q162 : t161 < (x5_2.length : Int) := of_decide_eq_true (by first | (with_reducible assumption) | assumption); obtain ⟨ad162, e162, hx162_0⟩ := Kd.at_int (Kd.R_reads' HO_5.out).2.2 t161 p162 q162; cases e162; replace p162 := eq_true p162; replace q162 := eq_true q162; have p20 : 0 ≤ (t161 : Int) := of_decide_eq_true (by first | (with_reducible assumption) | assumption); have q20 : (t161 : Int) < ((x5_2.length : Int) : Int) := of_decide_eq_true (by first | (with_reducible assumption) | assumption); obtain ⟨go20, co20, eo20, gb20, gl20, cl20, HG20⟩ := Kd.R_form HO_5.out (by omega); (first | cases eo20 | (injection eo20 with ea_ en_ ec_; (first | subst ea_ | (injection ea_ with ea_; subst ea_)); subst ec_; clear en_)); have GB20 := Aside0.mk gb20; have GG20 := Aside0.mk HG20; clear gb20 gl20 HG20; (first | simp only [add_plain] at hx162_0 | skip); obtain ⟨hx20_0, hf20_0⟩ := Kd.R_celln 0 HO_5.out (t161 : Int) p20 q20; replace p20 := eq_true p20; replace q20 := eq_true q20; obtain ⟨hy24_, hz24_⟩ := Kd.R_celln 0 HO_5.out (t161 : Int) (of_decide_eq_true (by first | (with_reducible assumption) | assumption)) (of_decide_eq_true (by first | (with_reducible assumption) | assumption)); have HP24 := Kd.R_putg HO_5.out (t161 : Int) (wrap64 (x22_2 * ((rd_T27 l1 x16_1).f2)))) | ((with_reducible refine gate_store (t := 3) (p := 49) rfl ?_); refine store_event (t := 3) (p := 49) (v := ?vo_w25) (w1 := (w22.setCell ⟨go20, (t161 : Int).toNat, none⟩ (.int .i64 (wrap64 (x22_2 * ((rd_T27 l1 x16_1).f2)))))) ?hg ?ho ?hn ?hr ?_; (case ho => rfl); (case hg => rfl); (case hn => rfl); (case hr => first | (go_simp; done) | (go_simp; rfl)); intro w25 hw; have hg : w22.grownBy w25 (some go20) := (by rw [hw]; exact HP24.2); have hp_ : Kd.R (Kd.int .i64) 3 w25 w.heap.size (fun _ => True) (.slice (some ⟨go20, 0, none⟩) x5_2.length co23) y163 := (by rw [hw, Ny163.out]; exact HP24.1); clear HP24; replace BK159 := Aside0.mk (blk_grown (pk BK159) hg (Kd.R_ne HO_5.out BK159.out (by decide))); replace HO_5 := Aside0.mk (hp_); replace HB := Aside0.mk ((by rw [hw]; exact below_set (HB.out) GB20.out : Below w.heap.size w w25)); clear hg hw hp_))
            go_roundg k2
            case measure => have := HK1.out; have := HK2.out; omega
            case rel => exact ⟨(y163), (wrap64 (x22_2 + 1)), (rs), H', ⟨by have := HK1.out; have := HK2.out; omega⟩, ⟨pr HO_5⟩, ⟨pk BK159⟩, ⟨bw⟩⟩
           ·rw [if_neg c19] at H
            have c19b0 : decide ((rd x5_2 t161) < 0) = false := decide_eq_false c19
            clear c19
            by_cases c26 : (wrap64 (x22_2 * ((rd_T27 l1 x16_1).f2))) < (rd x5_2 t161)
            ·rw [if_pos c26] at H
             have c26b0 : decide ((wrap64 (x22_2 * ((rd_T27 l1 x16_1).f2))) < (rd x5_2 t161)) = true := decide_eq_true c26
             clear c26
             obtain ⟨y165, hy165⟩ : ∃ y_ : List Int, y_ = (x5_2.set (t161 : Int).toNat (wrap64 (x22_2 * ((rd_T27 l1 x16_1).f2)))) := ⟨_, rfl⟩
             replace H : (impl_heard.l1 k2 a0 y165 l1 (l1.length : Int) x16_1 t160 (wrap64 (x22_2 + 1)) ((rd_T27 l1 x16_1).f0) ((rd_T27 l1 x16_1).f1) ((rd_T27 l1 x16_1).f2)) = some r := by first | (rw [hy165]; with_reducible exact H) | (have H2_ := (Option.bind_some _ _).symm.trans H; rw [hy165]; with_reducible exact H2_) | (have H2_ := (Option.bind_some _ _).symm.trans H; with_reducible exact H2_) | with_reducible exact H | (rw [hy165]; exact H) | exact H
             have Ny165 := Aside0.mk hy165
             clear hy165
             have H' := Aside0.mk H
             clear H
             have hcz28_0 : wr.cell? ⟨gb159, 0, none⟩ = some (.int .i64 ((rd_T27 l1 x16_1).f0)) := ec BK159
             have hcz28_1 : wr.cell? ⟨gb159, 1, none⟩ = some (.bool ((rd_T27 l1 x16_1).f1)) := ec BK159
             have hcz28_2 : wr.cell? ⟨gb159, 2, none⟩ = some (.int .i64 ((rd_T27 l1 x16_1).f2)) := ec BK159
             have hfz28_0 := blk_frozen BK159.out 0
             have hfz28_1 := blk_frozen BK159.out 1
             have hfz28_2 := blk_frozen BK159.out 2
             go_wp2_with (first | ((with_reducible refine gate_callee (f := 31) rfl ?_); refine gl (some 32) Try.func31 #[.agg #[.int .i64 ((rd_T27 l1 x16_1).f0), .bool ((rd_T27 l1 x16_1).f1), .int .i64 ((rd_T27 l1 x16_1).f2)], .int .i64 a0, .int .i64 (wrap64 (x22_2 * ((rd_T27 l1 x16_1).f2)))] ?_; (with_reducible refine (impl_Signal_place.calls ((rd_T27 l1 x16_1).f0) ((rd_T27 l1 x16_1).f1) ((rd_T27 l1 x16_1).f2) a0 (wrap64 (x22_2 * ((rd_T27 l1 x16_1).f2))) t161 _ A16.out).mono ?_); rintro e w29 ⟨rfl, hb⟩; refine ⟨_, rfl, ?_⟩; replace HO_5 := Aside0.mk (Kd.R_below (pr HO_5) hb); replace BK159 := nk BK159 hb; replace HB := bs hb; (try clear hb); obtain ⟨Ao30, co30, eo30⟩ := Kd.R_slice HO_5.out; subst eo30; have p162 : 0 ≤ (t161 : Int) := of_decide_eq_true (by first | (with_reducible assumption) | assumption); have q162 : t161 < (x5_2.length : Int) := of_decide_eq_true (by first | (with_reducible assumption) | assumption); obtain ⟨ad162, e162, hx162_0⟩ := Kd.at_int (Kd.R_reads' HO_5.out).2.2 t161 p162 q162; cases e162; replace p162 := eq_true p162; replace q162 := eq_true q162; have p164 : 0 ≤ (t161 : Int) := of_decide_eq_true (by first | (with_reducible assumption) | assumption); have q164 : t161 < (x5_2.length : Int) := of_decide_eq_true (by first | (with_reducible assumption) | assumption); obtain ⟨ad164, e164, hx164_0⟩ := Kd.at_int (Kd.R_reads' HO_5.out).2.2 t161 p164 q164; obtain rfl : ad162 = ad164 := (by injection e164); replace p164 := eq_true p164; replace q164 := eq_true q164; have p27 : 0 ≤ (t161 : Int) := of_decide_eq_true (by first | (with_reducible assumption) | assumption); have q27 : (t161 : Int) < ((x5_2.length : Int) : Int) := of_decide_eq_true (by first | (with_reducible assumption) | assumption); obtain ⟨go27, co27, eo27, gb27, gl27, cl27, HG27⟩ := Kd.R_form HO_5.out (by omega); (first | cases eo27 | (injection eo27 with ea_ en_ ec_; (first | subst ea_ | (injection ea_ with ea_; subst ea_)); subst ec_; clear en_)); have GB27 := Aside0.mk gb27; have GG27 := Aside0.mk HG27; clear gb27 gl27 HG27; (first | simp only [add_plain] at hx162_0 | skip); (first | simp only [add_plain] at hx164_0 | skip); obtain ⟨hx27_0, hf27_0⟩ := Kd.R_celln 0 HO_5.out (t161 : Int) p27 q27; replace p27 := eq_true p27; replace q27 := eq_true q27; obtain ⟨hy31_, hz31_⟩ := Kd.R_celln 0 HO_5.out (t161 : Int) (of_decide_eq_true (by first | (with_reducible assumption) | assumption)) (of_decide_eq_true (by first | (with_reducible assumption) | assumption)); have HP31 := Kd.R_putg HO_5.out (t161 : Int) (wrap64 (x22_2 * ((rd_T27 l1 x16_1).f2)))) | ((with_reducible refine gate_store (t := 3) (p := 49) rfl ?_); refine store_event (t := 3) (p := 49) (v := ?vo_w32) (w1 := (w29.setCell ⟨go27, (t161 : Int).toNat, none⟩ (.int .i64 (wrap64 (x22_2 * ((rd_T27 l1 x16_1).f2)))))) ?hg ?ho ?hn ?hr ?_; (case ho => rfl); (case hg => rfl); (case hn => rfl); (case hr => first | (go_simp; done) | (go_simp; rfl)); intro w32 hw; have hg : w29.grownBy w32 (some go27) := (by rw [hw]; exact HP31.2); have hp_ : Kd.R (Kd.int .i64) 3 w32 w.heap.size (fun _ => True) (.slice (some ⟨go27, 0, none⟩) x5_2.length co30) y165 := (by rw [hw, Ny165.out]; exact HP31.1); clear HP31; replace BK159 := Aside0.mk (blk_grown (pk BK159) hg (Kd.R_ne HO_5.out BK159.out (by decide))); replace HO_5 := Aside0.mk (hp_); replace HB := Aside0.mk ((by rw [hw]; exact below_set (HB.out) GB27.out : Below w.heap.size w w32)); clear hg hw hp_))
             go_roundg k2
             case measure => have := HK1.out; have := HK2.out; omega
             case rel => exact ⟨(y165), (wrap64 (x22_2 + 1)), (rs), H', ⟨by have := HK1.out; have := HK2.out; omega⟩, ⟨pr HO_5⟩, ⟨pk BK159⟩, ⟨bw⟩⟩
            ·rw [if_neg c26] at H
             have c26b0 : decide ((wrap64 (x22_2 * ((rd_T27 l1 x16_1).f2))) < (rd x5_2 t161)) = false := decide_eq_false c26
             clear c26
             have H' := Aside0.mk H
             clear H
             have hcz33_0 : wr.cell? ⟨gb159, 0, none⟩ = some (.int .i64 ((rd_T27 l1 x16_1).f0)) := ec BK159
             have hcz33_1 : wr.cell? ⟨gb159, 1, none⟩ = some (.bool ((rd_T27 l1 x16_1).f1)) := ec BK159
             have hcz33_2 : wr.cell? ⟨gb159, 2, none⟩ = some (.int .i64 ((rd_T27 l1 x16_1).f2)) := ec BK159
             have hfz33_0 := blk_frozen BK159.out 0
             have hfz33_1 := blk_frozen BK159.out 1
             have hfz33_2 := blk_frozen BK159.out 2
             go_wp2_with (first | ((with_reducible refine gate_callee (f := 31) rfl ?_); refine gl (some 32) Try.func31 #[.agg #[.int .i64 ((rd_T27 l1 x16_1).f0), .bool ((rd_T27 l1 x16_1).f1), .int .i64 ((rd_T27 l1 x16_1).f2)], .int .i64 a0, .int .i64 (wrap64 (x22_2 * ((rd_T27 l1 x16_1).f2)))] ?_; (with_reducible refine (impl_Signal_place.calls ((rd_T27 l1 x16_1).f0) ((rd_T27 l1 x16_1).f1) ((rd_T27 l1 x16_1).f2) a0 (wrap64 (x22_2 * ((rd_T27 l1 x16_1).f2))) t161 _ A16.out).mono ?_); rintro e w34 ⟨rfl, hb⟩; refine ⟨_, rfl, ?_⟩; replace HO_5 := Aside0.mk (Kd.R_below (pr HO_5) hb); replace BK159 := nk BK159 hb; replace HB := bs hb; (try clear hb); obtain ⟨Ao35, co35, eo35⟩ := Kd.R_slice HO_5.out; subst eo35; have p162 : 0 ≤ (t161 : Int) := of_decide_eq_true (by first | (with_reducible assumption) | assumption); have q162 : t161 < (x5_2.length : Int) := of_decide_eq_true (by first | (with_reducible assumption) | assumption); obtain ⟨ad162, e162, hx162_0⟩ := Kd.at_int (Kd.R_reads' HO_5.out).2.2 t161 p162 q162; cases e162; replace p162 := eq_true p162; replace q162 := eq_true q162; have p164 : 0 ≤ (t161 : Int) := of_decide_eq_true (by first | (with_reducible assumption) | assumption); have q164 : t161 < (x5_2.length : Int) := of_decide_eq_true (by first | (with_reducible assumption) | assumption); obtain ⟨ad164, e164, hx164_0⟩ := Kd.at_int (Kd.R_reads' HO_5.out).2.2 t161 p164 q164; obtain rfl : ad162 = ad164 := (by injection e164); replace p164 := eq_true p164; replace q164 := eq_true q164))
             go_roundg k2
             case measure => have := HK1.out; have := HK2.out; omega
             case rel => exact ⟨(x5_2), (wrap64 (x22_2 + 1)), (rs), H', ⟨by have := HK1.out; have := HK2.out; omega⟩, ⟨pr HO_5⟩, ⟨pk BK159⟩, ⟨bw⟩⟩
          ·rw [if_neg c18] at H
           exact absurd H (by simp)
         ·rw [if_neg c17] at H
          exact absurd H (by simp)
        ·rw [if_neg c15] at H
         have c15b0 : decide (x22_2 < t160) = false := decide_eq_false c15
         clear c15
         have H' := Aside0.mk H
         clear H
         go_wp2
         go_roundg k2
         case measure => have := HK1.out; have := HK2.out; omega
         case rel => exact ⟨(x5_2), (wrap64 (x16_1 + 1)), (rs), H', ⟨by have := HK1.out; have := HK2.out; omega⟩, ⟨pr HO_5⟩, ⟨bw⟩⟩
     ·rw [if_neg c10] at H
      exact absurd H (by simp)
    ·rw [if_neg c9] at H
     exact absurd H (by simp)
   ·rw [if_neg c8] at H
    have c8b0 : decide (x16_1 < (l1.length : Int)) = false := decide_eq_false c8
    clear c8
    obtain rfl := Option.some.inj H
    go_wp2
    go_ret
    exact ⟨_, rs, pr HO_5, bw⟩

/-! ### impl_isSignalTime: function 46 -/
def impl_isSignalTime.f (a0 : Int) : Option (Bool) := (impl_in.f a0 0 100000).bind fun t166 => (some t166)
set_option maxHeartbeats 8000000 in
set_option maxRecDepth 100000 in
theorem impl_isSignalTime.calls (a0 : Int) (r : Bool) (w : World) (h : impl_isSignalTime.f a0 = some r) :
  Calls Try.prog 46 #[.int .i64 a0] w fun e w' => e = .returned (.bool r) ∧ Drawn0 w w' := by
 unfold impl_isSignalTime.f at h
 have H := h
 clear h
 replace H := Option.bind_eq_some_iff.mp H
 obtain ⟨t166, A20, H⟩ := H
 (try dsimp only at H)
 have A2 := Aside0.mk A20
 clear A20
 obtain rfl := Option.some.inj H
 go_enter Try.func46, Try.ntmps46
 go_wp2_with (first | ((with_reducible refine gate_callee (f := 29) rfl ?_); refine gl (some 4) Try.func29 #[.int .i64 a0, .int .i64 0, .int .i64 100000] ?_; (with_reducible refine (impl_in.calls a0 0 100000 t166 _ A2.out).mono ?_); rintro e w' ⟨rfl, ⟨nd, rfl⟩⟩; refine ⟨_, rfl, ?_⟩))
 go_ret
 exact ⟨rs, by repeat (first | exact Drawn0.refl _ | apply Drawn0.step)⟩

/-! ### impl_HeardBy: function 22 -/
mutual
def impl_HeardBy.j0 : Nat → Int → List (S27) → Int → Bool → Option (List Int × Bool)
  | 0, _, _, _, _ => none
  | k + 1, x0, x1, x2, x19 => if x19 = true then (some (([] : List Int), false)) else ((impl_heard.f k x0 x1).bind fun t172 => (impl_HeardBy.l0 k x2 (([] : List Int)) t172 (t172.length : Int) 0))
def impl_HeardBy.l0 : Nat → Int → List Int → List Int → Int → Int → Option (List Int × Bool)
  | 0, _, _, _, _, _ => none
  | k + 1, x2, x8, x23, x24, x25 => if x25 < x24 then (if 0 ≤ x25 then (if x25 < (x23.length : Int) then (if (rd x23 x25) ≤ x2 then (if x8.length < 17592186044416 then (impl_HeardBy.l0 k x2 (x8 ++ [x25]) x23 x24 (wrap64 (x25 + 1))) else (none)) else (impl_HeardBy.l0 k x2 x8 x23 x24 (wrap64 (x25 + 1)))) else (none)) else (none)) else (some (x8, true))
end
def impl_HeardBy.f (k : Nat) (a0 : Int) (l1 : List (S27)) (a2 : Int) : Option (List Int × Bool) := (impl_areSignals.f k a0 l1).bind fun t167 => (if t167 = true then ((impl_isSignalTime.f a2).bind fun t168 => (impl_HeardBy.j0 k a0 l1 a2 (!t168))) else (impl_HeardBy.j0 k a0 l1 a2 true))
theorem impl_HeardBy.mono_l : ∀ k, (∀ y0 y1 y2 y3, LeO (impl_HeardBy.j0 k y0 y1 y2 y3) (impl_HeardBy.j0 (k + 1) y0 y1 y2 y3)) ∧ (∀ y0 y1 y2 y3 y4, LeO (impl_HeardBy.l0 k y0 y1 y2 y3 y4) (impl_HeardBy.l0 (k + 1) y0 y1 y2 y3 y4))
  | 0 => ⟨fun _ _ _ _ r h => by simp [impl_HeardBy.j0] at h, fun _ _ _ _ _ r h => by simp [impl_HeardBy.l0] at h⟩
  | k + 1 => by
    obtain ⟨ih0, ih1⟩ := impl_HeardBy.mono_l k
    refine ⟨?_, ?_⟩
    · intro y0 y1 y2 y3
      unfold impl_HeardBy.j0
      repeat' first
      | (with_reducible exact ih0 _ _ _ _)
      | (with_reducible exact ih1 _ _ _ _ _)
      | (with_reducible exact impl_areSignals.mono _ _ _)
      | (with_reducible exact impl_heard.mono _ _ _)
      | (with_reducible exact LeO.refl _)
      | (with_reducible exact LeO.none _)
      | (with_reducible refine LeO.ite ?_ ?_)
      | (with_reducible refine LeO.bind ?_ (fun _ => ?_))
      | exact ih0 _ _ _ _
      | exact ih1 _ _ _ _ _
      | exact impl_areSignals.mono _ _ _
      | exact impl_heard.mono _ _ _
      | exact LeO.none _
      | refine LeO.ite ?_ ?_
      | refine LeO.bind ?_ (fun _ => ?_)
    · intro y0 y1 y2 y3 y4
      unfold impl_HeardBy.l0
      repeat' first
      | (with_reducible exact ih0 _ _ _ _)
      | (with_reducible exact ih1 _ _ _ _ _)
      | (with_reducible exact impl_areSignals.mono _ _ _)
      | (with_reducible exact impl_heard.mono _ _ _)
      | (with_reducible exact LeO.refl _)
      | (with_reducible exact LeO.none _)
      | (with_reducible refine LeO.ite ?_ ?_)
      | (with_reducible refine LeO.bind ?_ (fun _ => ?_))
      | exact ih0 _ _ _ _
      | exact ih1 _ _ _ _ _
      | exact impl_areSignals.mono _ _ _
      | exact impl_heard.mono _ _ _
      | exact LeO.none _
      | refine LeO.ite ?_ ?_
      | refine LeO.bind ?_ (fun _ => ?_)
theorem impl_HeardBy.mono : ∀ a0 a1 a2 k, LeO (impl_HeardBy.f k a0 a1 a2) (impl_HeardBy.f (k + 1) a0 a1 a2) := by
  intro a0 a1 a2 k
  obtain ⟨ih0, ih1⟩ := impl_HeardBy.mono_l k
  unfold impl_HeardBy.f
  repeat' first
      | (with_reducible exact ih0 _ _ _ _)
      | (with_reducible exact ih1 _ _ _ _ _)
      | (with_reducible exact impl_areSignals.mono _ _ _)
      | (with_reducible exact impl_heard.mono _ _ _)
      | (with_reducible exact LeO.refl _)
      | (with_reducible exact LeO.none _)
      | (with_reducible refine LeO.ite ?_ ?_)
      | (with_reducible refine LeO.bind ?_ (fun _ => ?_))
      | exact ih0 _ _ _ _
      | exact ih1 _ _ _ _ _
      | exact impl_areSignals.mono _ _ _
      | exact impl_heard.mono _ _ _
      | exact LeO.none _
      | refine LeO.ite ?_ ?_
      | refine LeO.bind ?_ (fun _ => ?_)
set_option maxHeartbeats 8000000 in
set_option maxRecDepth 100000 in
theorem impl_HeardBy.calls (k : Nat) (a0 : Int) (A1 : Option Addr) (c1 : Nat) (l1 : List (S27)) (a2 : Int) (r1 : List Int) (r2 : Bool) (w : World) (hr1 : Kd.C k27 w A1 l1.length l1) (hc1 : l1.length ≤ c1) (h : impl_HeardBy.f k a0 l1 a2 = some (r1, r2)) :
  Calls Try.prog 22 #[.int .i64 a0, .slice A1 l1.length c1, .int .i64 a2] w fun e w' => ∃ v0_ : Value, e = .returned (.tuple #[v0_, .bool r2]) ∧ Kd.R (Kd.int .i64) 3 w' w.heap.size (fun _ => True) v0_ r1 ∧ Below w.heap.size w w' := by
 have HR1 := Aside0.mk hr1
 have HC1 := Aside0.mk hc1
 clear hr1 hc1
 have HB := Aside0.mk (Below.refl w.heap.size w)
 unfold impl_HeardBy.f at h
 have H := h
 clear h
 have HC4 := Aside0.mk H
 clear H
 go_enter Try.func22, Try.ntmps22
 go_upto_region 1 with (fail)
 go_cut [19] (fun v19 wc => ∃ (kq : Nat) (x19_3 : Bool), v19 = .bool x19_3 ∧ Aside0 (impl_HeardBy.j0 kq a0 l1 a2 x19_3 = some (r1, r2)) ∧ Aside0 (kq ≤ k) ∧ Aside0 (Below w.heap.size w wc))
 case first =>
  have H := HC4.out
  clear HC4
  replace H := Option.bind_eq_some_iff.mp H
  obtain ⟨t167, A50, H⟩ := H
  (try dsimp only at H)
  have A5 := Aside0.mk A50
  clear A50
  by_cases c6 : t167 = true
  ·subst c6
   rw [if_pos rfl] at H
   replace H := Option.bind_eq_some_iff.mp H
   obtain ⟨t168, A70, H⟩ := H
   (try dsimp only at H)
   have A7 := Aside0.mk A70
   clear A70
   have H' := Aside0.mk H
   clear H
   go_wp2_with (first | ((with_reducible refine gate_callee (f := 41) rfl ?_); refine gl (some 13) Try.func41 #[.int .i64 a0, .slice A1 l1.length c1] ?_; (with_reducible refine (impl_areSignals.calls k a0 _ _ l1 true _ ?side1 ?side2 A5.out).mono ?_); (case side1 => repeat (first | exact (Kd.C_below HR1.out HB.out) | (with_reducible refine Kd.C_alloc ?_ _) | (with_reducible refine Kd.C_drewN ?_ _) | (with_reducible refine Kd.C_drew ?_))); (case side2 => exact HC1.out); rintro e w8 ⟨rfl, hb⟩; refine ⟨_, rfl, ?_⟩; replace HB := bs hb; (try clear hb)) | (go_at_call 46; (with_reducible refine (impl_isSignalTime.calls a2 t168 _ A7.out).mono ?_); rintro e w' ⟨rfl, ⟨nd, rfl⟩⟩))
   go_meet
   case rel => exact ⟨_, (!t168), (rs), H', ⟨by first | omega | exact Nat.le_refl _⟩, ⟨bw⟩⟩
  ·replace c6 := Bool.eq_false_iff.mpr c6
   subst c6
   rw [if_neg (show ¬ (false = true) by decide)] at H
   have H' := Aside0.mk H
   clear H
   go_wp2_with (first | ((with_reducible refine gate_callee (f := 41) rfl ?_); refine gl (some 13) Try.func41 #[.int .i64 a0, .slice A1 l1.length c1] ?_; (with_reducible refine (impl_areSignals.calls k a0 _ _ l1 false _ ?side1 ?side2 A5.out).mono ?_); (case side1 => repeat (first | exact (Kd.C_below HR1.out HB.out) | (with_reducible refine Kd.C_alloc ?_ _) | (with_reducible refine Kd.C_drewN ?_ _) | (with_reducible refine Kd.C_drew ?_))); (case side2 => exact HC1.out); rintro e w9 ⟨rfl, hb⟩; refine ⟨_, rfl, ?_⟩; replace HB := bs hb; (try clear hb)))
   go_meet
   case rel => exact ⟨_, (true), (rs), H', ⟨by first | omega | exact Nat.le_refl _⟩, ⟨bw⟩⟩
 case rest =>
  clear HC4
  try clear c1
  try clear c2
  try clear p2
  try clear c4
  try clear c6
  obtain ⟨kq, x19_3, rfl, HA, HJ3, HB⟩ := hcut
  cases kq with
  | zero => exact absurd HA.out (by simp [impl_HeardBy.j0])
  | succ kj3 =>
   have H := HA.out
   clear HA
   simp only [impl_HeardBy.j0] at H
   by_cases c10 : x19_3 = true
   ·subst c10
    rw [if_pos rfl] at H
    simp only [Option.some.injEq, Prod.mk.injEq] at H
    obtain ⟨rfl, rfl⟩ := H
    go_wp2
    go_ret2
    exact ⟨_, rs, by first | exact Kd.R_nil _ _ _ _ _ | exact Kd.N_nil _ _ _ _ _ | exact Kd.V_nil _ _ _ _ _ | exact Kd.Q_nil _ _ _ _ _ | exact Kd.S_nil _ _ _ _ _, bw⟩
   ·replace c10 := Bool.eq_false_iff.mpr c10
    subst c10
    rw [if_neg (show ¬ (false = true) by decide)] at H
    obtain ⟨y169, hy169⟩ : ∃ y_ : List Int, y_ = (([] : List Int)) := ⟨_, rfl⟩
    replace H : ((impl_heard.f kj3 a0 l1).bind fun t172 => (impl_HeardBy.l0 kj3 a2 y169 t172 (t172.length : Int) 0)) = some (r1, r2) := by first | (rw [hy169]; with_reducible exact H) | (have H2_ := (Option.bind_some _ _).symm.trans H; rw [hy169]; with_reducible exact H2_) | (have H2_ := (Option.bind_some _ _).symm.trans H; with_reducible exact H2_) | with_reducible exact H | (rw [hy169]; exact H) | exact H
    have Ny169 := Aside0.mk hy169
    clear hy169
    replace H := Option.bind_eq_some_iff.mp H
    obtain ⟨t172, A110, H⟩ := H
    (try dsimp only at H)
    have A11 := Aside0.mk A110
    clear A110
    have H' := Aside0.mk H
    clear H
    go_wp2_with (first | ((with_reducible refine gate_dst (N := 20) rfl ?_); refine Kd.R_lit (Kd.int .i64) _ 3 ?hg (N := 20) ?hd (xs := ([] : List Int)) (inner := []) (ok := fun _ => True) (okp := fun _ => True) ?hr ?hp (fun _ hk => hk) trivial (Below.refl _ _) (Nat.le_refl _) (by simp) ?_; (case hd => rfl); (case hg => rfl); (case hr => first | (go_simp; done) | (go_simp; rfl)); (case hp => exact (Reps.none _ _)); intro v170 w12 ho13 hb hg_ hnew_; clear hg_ hnew_; (first | rw [← Ny169.out] at ho13 | (simp only [Int.reduceToNat] at ho13; rw [← Ny169.out] at ho13)); have HO171 := Aside0.mk (Kd.R_lower ho13 (below_size bw)); replace HB := bs hb; clear hb ho13) | ((with_reducible refine gate_callee (f := 43) rfl ?_); refine gl (some 23) Try.func43 #[.int .i64 a0, .slice A1 l1.length c1] ?_; (with_reducible refine (impl_heard.calls kj3 a0 _ _ l1 t172 _ ?side1 ?side2 A11.out).mono ?_); (case side1 => repeat (first | exact (Kd.C_below HR1.out HB.out) | (with_reducible refine Kd.C_alloc ?_ _) | (with_reducible refine Kd.C_drewN ?_ _) | (with_reducible refine Kd.C_drew ?_))); (case side2 => exact HC1.out); rintro e w14 ⟨v173, rfl, ho0, hb⟩; refine ⟨_, rfl, ?_⟩; have HO174 := Aside0.mk (Kd.R_lower (Kd.R_new' ho0 (Kd.R_lt (pr HO171))) (below_size bw)); replace HO171 := Aside0.mk (Kd.R_elder' (pr HO171) (Kd.R_base ho0) hb); replace HB := bs hb; (try clear hb); (try clear ho0); obtain ⟨Ao15, co15, eo15⟩ := Kd.R_slice HO174.out; subst eo15))
    go_loopg [8, 25] kj3 (fun kq v8 v25 w' => ∃ (x8_2 : List Int) (x25_2 : Int), v25 = .int .i64 x25_2 ∧ Aside0 (impl_HeardBy.l0 kq a2 x8_2 t172 (t172.length : Int) x25_2 = some (r1, r2)) ∧ Aside0 (kq ≤ kj3) ∧ Aside0 (Kd.R (Kd.int .i64) 3 w' w.heap.size (fun k_ => some k_ ≠ ((.slice Ao15 t172.length co15) : Value).ownBlock) v8 x8_2) ∧ Aside0 (Kd.R (Kd.int .i64) 3 w' w.heap.size (fun k_ => some k_ ≠ (v8 : Value).ownBlock) (.slice Ao15 t172.length co15) t172) ∧ Aside0 (Below w.heap.size w w'))
    case atStart => exact ⟨(y169), (0), (rs), H', ⟨Nat.le_refl _⟩, ⟨by (with_reducible repeat (first | apply Kd.R_alloc | apply Kd.R_drewN | apply Kd.R_drew)); exact Kd.R_mono HO171.out (fun _ hk => hk.2)⟩, ⟨by (with_reducible repeat (first | apply Kd.R_alloc | apply Kd.R_drewN | apply Kd.R_drew)); exact Kd.R_mono HO174.out (fun _ hk => hk.2)⟩, ⟨bw⟩⟩
    case round =>
     clear H'
     try clear c1
     try clear c2
     try clear p2
     try clear c4
     try clear c6
     try clear c10
     try clear p2
     obtain ⟨x8_2, x25_2, rfl, HA, HK2, HO_8, HO_23, HB⟩ := hrel
     cases gk with
     | zero => exact absurd HA.out (by simp [impl_HeardBy.l0])
     | succ k2 =>
      have H := HA.out
      clear HA
      simp only [impl_HeardBy.l0] at H
      by_cases c16 : x25_2 < (t172.length : Int)
      ·rw [if_pos c16] at H
       have c16b0 : decide (x25_2 < (t172.length : Int)) = true := decide_eq_true c16
       clear c16
       by_cases c17 : 0 ≤ x25_2
       ·rw [if_pos c17] at H
        have c17b0 : decide (0 ≤ x25_2) = true := decide_eq_true c17
        clear c17
        by_cases c18 : x25_2 < (t172.length : Int)
        ·rw [if_pos c18] at H
         have c18b0 : decide (x25_2 < (t172.length : Int)) = true := decide_eq_true c18
         clear c18
         by_cases c19 : (rd t172 x25_2) ≤ a2
         ·rw [if_pos c19] at H
          have c19b0 : decide ((rd t172 x25_2) ≤ a2) = true := decide_eq_true c19
          clear c19
          by_cases c20 : x8_2.length < 17592186044416
          ·rw [if_pos c20] at H
           have LMc20 := Aside0.mk c20
           clear c20
           obtain ⟨y176, hy176⟩ : ∃ y_ : List Int, y_ = (x8_2 ++ [x25_2]) := ⟨_, rfl⟩
           replace H : (impl_HeardBy.l0 k2 a2 y176 t172 (t172.length : Int) (wrap64 (x25_2 + 1))) = some (r1, r2) := by first | (rw [hy176]; with_reducible exact H) | (have H2_ := (Option.bind_some _ _).symm.trans H; rw [hy176]; with_reducible exact H2_) | (have H2_ := (Option.bind_some _ _).symm.trans H; with_reducible exact H2_) | with_reducible exact H | (rw [hy176]; exact H) | exact H
           have Ny176 := Aside0.mk hy176
           clear hy176
           have H' := Aside0.mk H
           clear H
           have p175 : 0 ≤ (x25_2 : Int) := of_decide_eq_true (by first | (with_reducible assumption) | assumption)
           have q175 : x25_2 < (t172.length : Int) := of_decide_eq_true (by first | (with_reducible assumption) | assumption)
           obtain ⟨ad175, e175, hx175_0⟩ := Kd.at_int (Kd.R_reads' HO_23.out).2.2 x25_2 p175 q175
           cases e175
           replace p175 := eq_true p175
           replace q175 := eq_true q175
           go_wp2_with (first | ((with_reducible refine gate_builtin (b := .append) (xs := #[.tmp 33, .tmp 35]) rfl ?_); at_builtin; refine Kd.R_append (Kd.int .i64) (w0 := w) w.heap.size rfl (.tmp 33) (.tmp 35) 24 3 (.int .i64 0) 8 rfl Try.underlying24 info3 rfl (by decide) (by omega) u8 x8_2 x25_2 [.int .i64 x25_2] (fun k_ => some k_ ≠ (.slice (some ad175) t172.length co15 : Value).ownBlock) (fun _ => False) rfl rfl ?aP (fun _ hk => hk.elim) ?aF ?aO ?aB ?aS ?aL ?_; (case aP => exact rfl); (case aB => exact bw); (case aF => exact (fun k_ hk => Kd.fresh' (Kd.R_lt (pr HO_23)) k_ hk)); (case aO => exact (pr HO_8)); (case aS => exact (below_size bw)); (case aL => have := LMc20.out; omega); intro v177 w21 ho hb hg hat; rw [← Ny176.out] at ho; have n0_ := Aside0.mk (Kd.R_after (ok := (fun _ => True)) (by (with_reducible repeat (first | apply Kd.R_alloc | apply Kd.R_drewN | apply Kd.R_drew)); exact Kd.R_mono HO_23.out (fun _ hk => ⟨trivial, hk⟩)) hg hat); have n1_ := Aside0.mk (hb); have n2_ := Aside0.mk (ho); clear HO_23; clear HB; clear HO_8; have HO_23 := n0_; have HB := n1_; have HO178 := n2_; clear n0_ n1_ n2_; clear ho hb hg hat))
           go_roundg k2
           case measure => have := HJ3.out; have := HK2.out; omega
           case rel => exact ⟨(y176), (wrap64 (x25_2 + 1)), (rs), H', ⟨by have := HJ3.out; have := HK2.out; omega⟩, ⟨pr HO178⟩, ⟨by (with_reducible repeat (first | apply Kd.R_alloc | apply Kd.R_drewN | apply Kd.R_drew)); exact Kd.R_mono HO_23.out (fun _ hk => hk.2)⟩, ⟨bw⟩⟩
          ·rw [if_neg c20] at H
           exact absurd H (by simp)
         ·rw [if_neg c19] at H
          have c19b0 : decide ((rd t172 x25_2) ≤ a2) = false := decide_eq_false c19
          clear c19
          have H' := Aside0.mk H
          clear H
          have p175 : 0 ≤ (x25_2 : Int) := of_decide_eq_true (by first | (with_reducible assumption) | assumption)
          have q175 : x25_2 < (t172.length : Int) := of_decide_eq_true (by first | (with_reducible assumption) | assumption)
          obtain ⟨ad175, e175, hx175_0⟩ := Kd.at_int (Kd.R_reads' HO_23.out).2.2 x25_2 p175 q175
          cases e175
          replace p175 := eq_true p175
          replace q175 := eq_true q175
          go_wp2
          go_roundg k2
          case measure => have := HJ3.out; have := HK2.out; omega
          case rel => exact ⟨(x8_2), (wrap64 (x25_2 + 1)), (rs), H', ⟨by have := HJ3.out; have := HK2.out; omega⟩, ⟨pr HO_8⟩, ⟨pr HO_23⟩, ⟨bw⟩⟩
        ·rw [if_neg c18] at H
         exact absurd H (by simp)
       ·rw [if_neg c17] at H
        exact absurd H (by simp)
      ·rw [if_neg c16] at H
       have c16b0 : decide (x25_2 < (t172.length : Int)) = false := decide_eq_false c16
       clear c16
       simp only [Option.some.injEq, Prod.mk.injEq] at H
       obtain ⟨rfl, rfl⟩ := H
       go_wp2
       go_ret2
       exact ⟨_, rs, by (with_reducible repeat (first | apply Kd.R_alloc | apply Kd.R_drewN | apply Kd.R_drew)); exact Kd.R_mono HO_8.out (fun _ hk => trivial), bw⟩

/-! ### laws_markSignalS: function 23 -/
def laws_markSignalS.l0 : Nat → List (S27) → Int → Int → Option (Int × (List (S27)))
  | 0, _, _, _ => none
  | k + 1, x0, x1, x5 => if x5 < (x0.length : Int) then (if 0 ≤ x5 then ((some (x0.set (x5 : Int).toNat (⟨x1, (rd_T27 x0 x5).f1, (rd_T27 x0 x5).f2⟩ : S27) : List (S27))).bind fun y179 => ((some (y179.set (x5 : Int).toNat (⟨(rd_T27 y179 x5).f0, ((Int.tmod (wrap64 (x1 + 1)) 3) == 0), (rd_T27 y179 x5).f2⟩ : S27) : List (S27))).bind fun y180 => (laws_markSignalS.l0 k (y180.set (x5 : Int).toNat (⟨(rd_T27 y180 x5).f0, (rd_T27 y180 x5).f1, wrap64 ((wrap64 (x1 + 1)) + 1)⟩ : S27)) (wrap64 ((wrap64 ((wrap64 (x1 + 1)) + 1)) + 1)) (wrap64 (x5 + 1))))) else (none)) else (some (x1, x0))
def laws_markSignalS.f (k : Nat) (l0 : List (S27)) (a1 : Int) : Option (Int × (List (S27))) := laws_markSignalS.l0 k l0 a1 0
theorem laws_markSignalS.mono_l : ∀ k, (∀ y0 y1 y2, LeO (laws_markSignalS.l0 k y0 y1 y2) (laws_markSignalS.l0 (k + 1) y0 y1 y2))
  | 0 => fun _ _ _ r h => by simp [laws_markSignalS.l0] at h
  | k + 1 => by
    have ih0 := laws_markSignalS.mono_l k
    · intro y0 y1 y2
      unfold laws_markSignalS.l0
      repeat' first
      | (with_reducible exact ih0 _ _ _)
      | (with_reducible exact LeO.refl _)
      | (with_reducible exact LeO.none _)
      | (with_reducible refine LeO.ite ?_ ?_)
      | (with_reducible refine LeO.bind ?_ (fun _ => ?_))
      | exact ih0 _ _ _
      | exact LeO.none _
      | refine LeO.ite ?_ ?_
      | refine LeO.bind ?_ (fun _ => ?_)
theorem laws_markSignalS.mono : ∀ a0 a1 k, LeO (laws_markSignalS.f k a0 a1) (laws_markSignalS.f (k + 1) a0 a1) := by
  intro a0 a1 k
  have ih0 := laws_markSignalS.mono_l k
  unfold laws_markSignalS.f
  repeat' first
      | (with_reducible exact ih0 _ _ _)
      | (with_reducible exact LeO.refl _)
      | (with_reducible exact LeO.none _)
      | (with_reducible refine LeO.ite ?_ ?_)
      | (with_reducible refine LeO.bind ?_ (fun _ => ?_))
      | exact ih0 _ _ _
      | exact LeO.none _
      | refine LeO.ite ?_ ?_
      | refine LeO.bind ?_ (fun _ => ?_)
set_option maxHeartbeats 8000000 in
set_option maxRecDepth 100000 in
theorem laws_markSignalS.calls (k : Nat) (P0_ : Nat → Prop) (u9000_ : Value) (l0 : List (S27)) (a1 : Int) (r1 : Int) (r2 : List (S27)) (w0 w : World) (hB : Below w0.heap.size w0 w) (ho0 : Kd.R k27 27 w w0.heap.size P0_ u9000_ l0) (h : laws_markSignalS.f k l0 a1 = some (r1, r2)) :
  Calls Try.prog 23 #[u9000_, .int .i64 a1] w fun e w' => e = .returned (.int .i64 r1) ∧ Kd.R k27 27 w' w0.heap.size (fun k_ => (P0_ k_ ∨ w.heap.size ≤ k_)) u9000_ r2 ∧ Below w0.heap.size w0 w' ∧ Kept w w' (fun k_ => P0_ k_) := by
 have HO0 := Aside0.mk (show Kd.R k27 27 w w0.heap.size (fun k_ => (P0_ k_ ∨ w.heap.size ≤ k_)) u9000_ l0 from Kd.R_mono ho0 (fun k_ hk => (.inl hk)))
 have HK := Aside0.mk (Kept.refl w (fun k_ => P0_ k_))
 have HW0 := Aside0.mk hB.size
 have HB := Aside0.mk hB
 clear hB
 unfold laws_markSignalS.f at h
 have H := h
 clear h
 have H' := Aside0.mk H
 clear H
 go_enter Try.func23, Try.ntmps23
 go_wp2
 go_loopg [1, 5] k (fun kq v1 v5 w' => ∃ (x0_1 : List (S27)) (x1_1 : Int) (x5_1 : Int), v1 = .int .i64 x1_1 ∧ v5 = .int .i64 x5_1 ∧ Aside0 (laws_markSignalS.l0 kq x0_1 x1_1 x5_1 = some (r1, r2)) ∧ Aside0 (kq ≤ k) ∧ Aside0 (Kd.R k27 27 w' w0.heap.size (fun k_ => (P0_ k_ ∨ w.heap.size ≤ k_)) u9000_ x0_1) ∧ Aside0 (Kept w w' (fun k_ => P0_ k_)) ∧ Aside0 (Below w0.heap.size w0 w'))
 case atStart => exact ⟨(l0), (a1), (0), (rs), (rs), H', ⟨Nat.le_refl _⟩, ⟨pr HO0⟩, ⟨by repeat (first | (with_reducible first | exact HK.out | apply Kept.alloc | apply Kept.drewN | apply Kept.drew) | exact HK.out)⟩, ⟨bw⟩⟩
 case round =>
  clear H'
  try clear c2
  try clear p2
  obtain ⟨x0_1, x1_1, x5_1, rfl, rfl, HA, HK1, HO_0, HK, HB⟩ := hrel
  cases gk with
  | zero => exact absurd HA.out (by simp [laws_markSignalS.l0])
  | succ k1 =>
   have H := HA.out
   clear HA
   simp only [laws_markSignalS.l0] at H
   by_cases c3 : x5_1 < (x0_1.length : Int)
   ·rw [if_pos c3] at H
    have c3b0 : decide (x5_1 < (x0_1.length : Int)) = true := decide_eq_true c3
    clear c3
    by_cases c4 : 0 ≤ x5_1
    ·rw [if_pos c4] at H
     have c4b0 : decide (0 ≤ x5_1) = true := decide_eq_true c4
     clear c4
     obtain ⟨y179, hy179⟩ : ∃ y_ : List (S27), y_ = (x0_1.set (x5_1 : Int).toNat (⟨x1_1, (rd_T27 x0_1 x5_1).f1, (rd_T27 x0_1 x5_1).f2⟩ : S27)) := ⟨_, rfl⟩
     replace H : ((some (y179.set (x5_1 : Int).toNat (⟨(rd_T27 y179 x5_1).f0, ((Int.tmod (wrap64 (x1_1 + 1)) 3) == 0), (rd_T27 y179 x5_1).f2⟩ : S27) : List (S27))).bind fun y180 => (laws_markSignalS.l0 k1 (y180.set (x5_1 : Int).toNat (⟨(rd_T27 y180 x5_1).f0, (rd_T27 y180 x5_1).f1, wrap64 ((wrap64 (x1_1 + 1)) + 1)⟩ : S27)) (wrap64 ((wrap64 ((wrap64 (x1_1 + 1)) + 1)) + 1)) (wrap64 (x5_1 + 1)))) = some (r1, r2) := by first | (rw [hy179]; with_reducible exact H) | (have H2_ := (Option.bind_some _ _).symm.trans H; rw [hy179]; with_reducible exact H2_) | (have H2_ := (Option.bind_some _ _).symm.trans H; with_reducible exact H2_) | with_reducible exact H | (rw [hy179]; exact H) | exact H
     have Ny179 := Aside0.mk hy179
     clear hy179
     obtain ⟨y180, hy180⟩ : ∃ y_ : List (S27), y_ = (y179.set (x5_1 : Int).toNat (⟨(rd_T27 y179 x5_1).f0, ((Int.tmod (wrap64 (x1_1 + 1)) 3) == 0), (rd_T27 y179 x5_1).f2⟩ : S27)) := ⟨_, rfl⟩
     replace H : (laws_markSignalS.l0 k1 (y180.set (x5_1 : Int).toNat (⟨(rd_T27 y180 x5_1).f0, (rd_T27 y180 x5_1).f1, wrap64 ((wrap64 (x1_1 + 1)) + 1)⟩ : S27)) (wrap64 ((wrap64 ((wrap64 (x1_1 + 1)) + 1)) + 1)) (wrap64 (x5_1 + 1))) = some (r1, r2) := by first | (rw [hy180]; with_reducible exact H) | (have H2_ := (Option.bind_some _ _).symm.trans H; rw [hy180]; with_reducible exact H2_) | (have H2_ := (Option.bind_some _ _).symm.trans H; with_reducible exact H2_) | with_reducible exact H | (rw [hy180]; exact H) | exact H
     have Ny180 := Aside0.mk hy180
     clear hy180
     obtain ⟨y181, hy181⟩ : ∃ y_ : List (S27), y_ = (y180.set (x5_1 : Int).toNat (⟨(rd_T27 y180 x5_1).f0, (rd_T27 y180 x5_1).f1, wrap64 ((wrap64 (x1_1 + 1)) + 1)⟩ : S27)) := ⟨_, rfl⟩
     replace H : (laws_markSignalS.l0 k1 y181 (wrap64 ((wrap64 ((wrap64 (x1_1 + 1)) + 1)) + 1)) (wrap64 (x5_1 + 1))) = some (r1, r2) := by first | (rw [hy181]; with_reducible exact H) | (have H2_ := (Option.bind_some _ _).symm.trans H; rw [hy181]; with_reducible exact H2_) | (have H2_ := (Option.bind_some _ _).symm.trans H; with_reducible exact H2_) | with_reducible exact H | (rw [hy181]; exact H) | exact H
     have Ny181 := Aside0.mk hy181
     clear hy181
     have H' := Aside0.mk H
     clear H
     obtain ⟨Ao8, co8, eo8⟩ := Kd.R_slice HO_0.out
     subst eo8
     have p5 : 0 ≤ (x5_1 : Int) := of_decide_eq_true (by first | (with_reducible assumption) | assumption)
     have q5 : (x5_1 : Int) < ((x0_1.length : Int) : Int) := of_decide_eq_true (by first | (with_reducible assumption) | assumption)
     obtain ⟨go5, co5, eo5, gb5, gl5, cl5, HG5⟩ := Kd.R_form HO_0.out (by omega)
     (first | cases eo5 | (injection eo5 with ea_ en_ ec_; (first | subst ea_ | (injection ea_ with ea_; subst ea_)); subst ec_; clear en_))
     have GB5 := Aside0.mk gb5
     have GG5 := Aside0.mk HG5
     clear gb5 gl5 HG5
     have HMgo5 := Aside0.mk (show (P0_ go5 ∨ w.heap.size ≤ go5) from (HO_0.out.1 _ rfl))
     obtain ⟨ce5, hcl5, hM5, hcc5, hfr5⟩ := Kd.R_elem HO_0.out z27 (x5_1 : Int) p5 q5
     obtain rfl := k27_openM hM5
     have hx5_0 : wr.cell? ⟨go5, (x5_1 : Int).toNat * 3, none⟩ = some (.int .i64 ((rd_T27 x0_1 x5_1).f0)) := hcc5 0 _ rfl
     have hx5_1 : wr.cell? ⟨go5, (x5_1 : Int).toNat * 3 + 1, none⟩ = some (.bool ((rd_T27 x0_1 x5_1).f1)) := hcc5 1 _ rfl
     have hx5_2 : wr.cell? ⟨go5, (x5_1 : Int).toNat * 3 + 2, none⟩ = some (.int .i64 ((rd_T27 x0_1 x5_1).f2)) := hcc5 2 _ rfl
     have hf5_0 : wr.frozen? ⟨go5, (x5_1 : Int).toNat * 3, none⟩ = false := hfr5 0
     have hf5_1 : wr.frozen? ⟨go5, (x5_1 : Int).toNat * 3 + 1, none⟩ = false := hfr5 1
     have hf5_2 : wr.frozen? ⟨go5, (x5_1 : Int).toNat * 3 + 2, none⟩ = false := hfr5 2
     clear hcl5 hcc5 hfr5 hM5
     replace p5 := eq_true p5
     replace q5 := eq_true q5
     have HX9 := Aside0.mk (show Kd.R k27 27 wr w0.heap.size (fun k_ => (P0_ k_ ∨ w.heap.size ≤ k_)) (.slice (some ⟨go5, 0, none⟩) x0_1.length co8) x0_1 from (pr HO_0))
     obtain ⟨ce9, hcl9, hM9, hcc9, hfr9⟩ := Kd.R_elem HX9.out z27 (x5_1 : Int) (of_decide_eq_true (by first | (with_reducible assumption) | assumption)) (by have h_ : (x5_1 : Int) < ((x0_1.length : Int) : Int) := of_decide_eq_true (by first | (with_reducible assumption) | assumption); first | exact h_ | (have e_ := (Kd.R_reads' HO_0.out).1; omega) | simpa using h_)
     obtain rfl := k27_openM hM9
     have HP9 := Kd.R_seg HX9.out (x5_1 : Int) (of_decide_eq_true (by first | (with_reducible assumption) | assumption)) (by have h_ : (x5_1 : Int) < ((x0_1.length : Int) : Int) := of_decide_eq_true (by first | (with_reducible assumption) | assumption); first | exact h_ | (have e_ := (Kd.R_reads' HO_0.out).1; omega) | simpa using h_) (seg := [.int .i64 x1_1]) (j := 0) hcl9 hcc9 (show 1 ≤ 3 from by decide) (x' := (⟨x1_1, (rd_T27 x0_1 x5_1).f1, (rd_T27 x0_1 x5_1).f2⟩ : S27)) (k27_mkM _ _ _ (⟨x1_1, (rd_T27 x0_1 x5_1).f1, (rd_T27 x0_1 x5_1).f2⟩ : S27) ) (fun _ hk => hk)
     have hx9_0 := hcc9 0 _ rfl
     (try simp only [show (k27).sz = 3 from rfl, Nat.mul_one, Nat.add_zero] at hx9_0)
     have hf9_0 := hfr9 0
     (try simp only [show (k27).sz = 3 from rfl, Nat.mul_one, Nat.add_zero] at hf9_0)
     clear hcl9 hcc9 hfr9 hM9
     go_wp2_with (first | ((with_reducible refine gate_store (t := 3) (p := 16) rfl ?_); refine store_event (t := 3) (p := 16) (v := ?vo_w10) (w1 := (wr.setCell ⟨go5, (x5_1 : Int).toNat * 3, none⟩ (.int .i64 x1_1))) ?hg ?ho ?hn ?hr ?_; (case ho => rfl); (case hg => rfl); (case hn => rfl); (case hr => first | (go_simp; done) | (go_simp; rfl)); intro w10 hw; have hg : wr.grownBy w10 (some go5) := (by rw [hw]; exact HP9.2); have hp_ : Kd.R k27 27 w10 w0.heap.size (fun k_ => (P0_ k_ ∨ w.heap.size ≤ k_)) (.slice (some ⟨go5, 0, none⟩) x0_1.length co8) y179 := (by rw [hw, Ny179.out]; exact HP9.1); clear HP9; replace HB := Aside0.mk ((by rw [hw]; exact below_set (HB.out) GB5.out : Below w0.heap.size w0 w10)); replace HK := Aside0.mk (Kept.of_grown (S := (fun k_ => P0_ k_)) hg (by repeat (first | (with_reducible first | exact HK.out | apply Kept.alloc | apply Kept.drewN | apply Kept.drew) | exact HK.out)) (fun k_ e_ => (HO_0.out.1 k_ e_))); replace HO_0 := Aside0.mk (hp_); clear hg hw hp_; have p6 : 0 ≤ (x5_1 : Int) := of_decide_eq_true (by first | (with_reducible assumption) | assumption); have q6 : (x5_1 : Int) < ((x0_1.length : Int) : Int) := of_decide_eq_true (by first | (with_reducible assumption) | assumption); obtain ⟨ce6, hcl6, hM6, hcc6, hfr6⟩ := Kd.R_elem HO_0.out z27 (x5_1 : Int) p6 q6; obtain rfl := k27_openM hM6; have hx6_0 : w10.cell? ⟨go5, (x5_1 : Int).toNat * 3, none⟩ = some (.int .i64 ((rd_T27 y179 x5_1).f0)) := hcc6 0 _ rfl; have hx6_1 : w10.cell? ⟨go5, (x5_1 : Int).toNat * 3 + 1, none⟩ = some (.bool ((rd_T27 y179 x5_1).f1)) := hcc6 1 _ rfl; have hx6_2 : w10.cell? ⟨go5, (x5_1 : Int).toNat * 3 + 2, none⟩ = some (.int .i64 ((rd_T27 y179 x5_1).f2)) := hcc6 2 _ rfl; have hf6_0 : w10.frozen? ⟨go5, (x5_1 : Int).toNat * 3, none⟩ = false := hfr6 0; have hf6_1 : w10.frozen? ⟨go5, (x5_1 : Int).toNat * 3 + 1, none⟩ = false := hfr6 1; have hf6_2 : w10.frozen? ⟨go5, (x5_1 : Int).toNat * 3 + 2, none⟩ = false := hfr6 2; clear hcl6 hcc6 hfr6 hM6; replace p6 := eq_true p6; replace q6 := eq_true q6; have HX11 := Aside0.mk (show Kd.R k27 27 w10 w0.heap.size (fun k_ => (P0_ k_ ∨ w.heap.size ≤ k_)) (.slice (some ⟨go5, 0, none⟩) x0_1.length co8) y179 from (pr HO_0)); obtain ⟨ce11, hcl11, hM11, hcc11, hfr11⟩ := Kd.R_elem HX11.out z27 (x5_1 : Int) (of_decide_eq_true (by first | (with_reducible assumption) | assumption)) (by have h_ : (x5_1 : Int) < ((x0_1.length : Int) : Int) := of_decide_eq_true (by first | (with_reducible assumption) | assumption); first | exact h_ | (have e_ := (Kd.R_reads' HO_0.out).1; omega) | simpa using h_); obtain rfl := k27_openM hM11; have HP11 := Kd.R_seg HX11.out (x5_1 : Int) (of_decide_eq_true (by first | (with_reducible assumption) | assumption)) (by have h_ : (x5_1 : Int) < ((x0_1.length : Int) : Int) := of_decide_eq_true (by first | (with_reducible assumption) | assumption); first | exact h_ | (have e_ := (Kd.R_reads' HO_0.out).1; omega) | simpa using h_) (seg := [.bool ((Int.tmod (wrap64 (x1_1 + 1)) 3) == 0)]) (j := 1) hcl11 hcc11 (show 2 ≤ 3 from by decide) (x' := (⟨(rd_T27 y179 x5_1).f0, ((Int.tmod (wrap64 (x1_1 + 1)) 3) == 0), (rd_T27 y179 x5_1).f2⟩ : S27)) (k27_mkM _ _ _ (⟨(rd_T27 y179 x5_1).f0, ((Int.tmod (wrap64 (x1_1 + 1)) 3) == 0), (rd_T27 y179 x5_1).f2⟩ : S27) ) (fun _ hk => hk); have hx11_1 := hcc11 1 _ rfl; (try simp only [show (k27).sz = 3 from rfl, Nat.mul_one, Nat.add_zero] at hx11_1); have hf11_1 := hfr11 1; (try simp only [show (k27).sz = 3 from rfl, Nat.mul_one, Nat.add_zero] at hf11_1); clear hcl11 hcc11 hfr11 hM11) | ((with_reducible refine gate_store (t := 4) (p := 25) rfl ?_); refine store_event (t := 4) (p := 25) (v := ?vo_w12) (w1 := (w10.setCell ⟨go5, (x5_1 : Int).toNat * 3 + 1, none⟩ (.bool ((Int.tmod (wrap64 (x1_1 + 1)) 3) == 0)))) ?hg ?ho ?hn ?hr ?_; (case ho => rfl); (case hg => rfl); (case hn => rfl); (case hr => first | (go_simp; done) | (go_simp; rfl)); intro w12 hw; have hg : w10.grownBy w12 (some go5) := (by rw [hw]; exact HP11.2); have hp_ : Kd.R k27 27 w12 w0.heap.size (fun k_ => (P0_ k_ ∨ w.heap.size ≤ k_)) (.slice (some ⟨go5, 0, none⟩) x0_1.length co8) y180 := (by rw [hw, Ny180.out]; exact HP11.1); clear HP11; replace HB := Aside0.mk ((by rw [hw]; exact below_set (HB.out) GB5.out : Below w0.heap.size w0 w12)); replace HK := Aside0.mk (Kept.of_grown (S := (fun k_ => P0_ k_)) hg (by repeat (first | (with_reducible first | exact HK.out | apply Kept.alloc | apply Kept.drewN | apply Kept.drew) | exact HK.out)) (fun k_ e_ => (HO_0.out.1 k_ e_))); replace HO_0 := Aside0.mk (hp_); clear hg hw hp_; have p7 : 0 ≤ (x5_1 : Int) := of_decide_eq_true (by first | (with_reducible assumption) | assumption); have q7 : (x5_1 : Int) < ((x0_1.length : Int) : Int) := of_decide_eq_true (by first | (with_reducible assumption) | assumption); obtain ⟨ce7, hcl7, hM7, hcc7, hfr7⟩ := Kd.R_elem HO_0.out z27 (x5_1 : Int) p7 q7; obtain rfl := k27_openM hM7; have hx7_0 : w12.cell? ⟨go5, (x5_1 : Int).toNat * 3, none⟩ = some (.int .i64 ((rd_T27 y180 x5_1).f0)) := hcc7 0 _ rfl; have hx7_1 : w12.cell? ⟨go5, (x5_1 : Int).toNat * 3 + 1, none⟩ = some (.bool ((rd_T27 y180 x5_1).f1)) := hcc7 1 _ rfl; have hx7_2 : w12.cell? ⟨go5, (x5_1 : Int).toNat * 3 + 2, none⟩ = some (.int .i64 ((rd_T27 y180 x5_1).f2)) := hcc7 2 _ rfl; have hf7_0 : w12.frozen? ⟨go5, (x5_1 : Int).toNat * 3, none⟩ = false := hfr7 0; have hf7_1 : w12.frozen? ⟨go5, (x5_1 : Int).toNat * 3 + 1, none⟩ = false := hfr7 1; have hf7_2 : w12.frozen? ⟨go5, (x5_1 : Int).toNat * 3 + 2, none⟩ = false := hfr7 2; clear hcl7 hcc7 hfr7 hM7; replace p7 := eq_true p7; replace q7 := eq_true q7; have HX13 := Aside0.mk (show Kd.R k27 27 w12 w0.heap.size (fun k_ => (P0_ k_ ∨ w.heap.size ≤ k_)) (.slice (some ⟨go5, 0, none⟩) x0_1.length co8) y180 from (pr HO_0)); obtain ⟨ce13, hcl13, hM13, hcc13, hfr13⟩ := Kd.R_elem HX13.out z27 (x5_1 : Int) (of_decide_eq_true (by first | (with_reducible assumption) | assumption)) (by have h_ : (x5_1 : Int) < ((x0_1.length : Int) : Int) := of_decide_eq_true (by first | (with_reducible assumption) | assumption); first | exact h_ | (have e_ := (Kd.R_reads' HO_0.out).1; omega) | simpa using h_); obtain rfl := k27_openM hM13; have HP13 := Kd.R_seg HX13.out (x5_1 : Int) (of_decide_eq_true (by first | (with_reducible assumption) | assumption)) (by have h_ : (x5_1 : Int) < ((x0_1.length : Int) : Int) := of_decide_eq_true (by first | (with_reducible assumption) | assumption); first | exact h_ | (have e_ := (Kd.R_reads' HO_0.out).1; omega) | simpa using h_) (seg := [.int .i64 (wrap64 ((wrap64 (x1_1 + 1)) + 1))]) (j := 2) hcl13 hcc13 (show 3 ≤ 3 from by decide) (x' := (⟨(rd_T27 y180 x5_1).f0, (rd_T27 y180 x5_1).f1, wrap64 ((wrap64 (x1_1 + 1)) + 1)⟩ : S27)) (k27_mkM _ _ _ (⟨(rd_T27 y180 x5_1).f0, (rd_T27 y180 x5_1).f1, wrap64 ((wrap64 (x1_1 + 1)) + 1)⟩ : S27) ) (fun _ hk => hk); have hx13_2 := hcc13 2 _ rfl; (try simp only [show (k27).sz = 3 from rfl, Nat.mul_one, Nat.add_zero] at hx13_2); have hf13_2 := hfr13 2; (try simp only [show (k27).sz = 3 from rfl, Nat.mul_one, Nat.add_zero] at hf13_2); clear hcl13 hcc13 hfr13 hM13) | ((with_reducible refine gate_store (t := 3) (p := 32) rfl ?_); refine store_event (t := 3) (p := 32) (v := ?vo_w14) (w1 := (w12.setCell ⟨go5, (x5_1 : Int).toNat * 3 + 2, none⟩ (.int .i64 (wrap64 ((wrap64 (x1_1 + 1)) + 1))))) ?hg ?ho ?hn ?hr ?_; (case ho => rfl); (case hg => rfl); (case hn => rfl); (case hr => first | (go_simp; done) | (go_simp; rfl)); intro w14 hw; have hg : w12.grownBy w14 (some go5) := (by rw [hw]; exact HP13.2); have hp_ : Kd.R k27 27 w14 w0.heap.size (fun k_ => (P0_ k_ ∨ w.heap.size ≤ k_)) (.slice (some ⟨go5, 0, none⟩) x0_1.length co8) y181 := (by rw [hw, Ny181.out]; exact HP13.1); clear HP13; replace HB := Aside0.mk ((by rw [hw]; exact below_set (HB.out) GB5.out : Below w0.heap.size w0 w14)); replace HK := Aside0.mk (Kept.of_grown (S := (fun k_ => P0_ k_)) hg (by repeat (first | (with_reducible first | exact HK.out | apply Kept.alloc | apply Kept.drewN | apply Kept.drew) | exact HK.out)) (fun k_ e_ => (HO_0.out.1 k_ e_))); replace HO_0 := Aside0.mk (hp_); clear hg hw hp_))
     go_roundg k1
     case measure => have := HK1.out; omega
     case rel => exact ⟨(y181), (wrap64 ((wrap64 ((wrap64 (x1_1 + 1)) + 1)) + 1)), (wrap64 (x5_1 + 1)), (rs), (rs), H', ⟨by have := HK1.out; omega⟩, ⟨pr HO_0⟩, ⟨by repeat (first | (with_reducible first | exact HK.out | apply Kept.alloc | apply Kept.drewN | apply Kept.drew) | exact HK.out)⟩, ⟨bw⟩⟩
    ·rw [if_neg c4] at H
     exact absurd H (by simp)
   ·rw [if_neg c3] at H
    have c3b0 : decide (x5_1 < (x0_1.length : Int)) = false := decide_eq_false c3
    clear c3
    simp only [Option.some.injEq, Prod.mk.injEq] at H
    obtain ⟨rfl, rfl⟩ := H
    obtain ⟨Ao15, co15, eo15⟩ := Kd.R_slice HO_0.out
    subst eo15
    go_wp2
    go_ret
    exact ⟨rs, pr HO_0, bw, by repeat (first | (with_reducible first | exact HK.out | apply Kept.alloc | apply Kept.drewN | apply Kept.drew) | exact HK.out)⟩

end Go.Proofs.Ytafcfhlgenljgaa.PFnExactHeardBy
