-- Laid by xprint, a program of this session that runs over the kit's print.
import Derived.Test.YthjbmojacgkdcaaGreatDoorPFnRowsHiddenx11
namespace Go.Proofs.YthjbmojacgkdcaaGreatDoor.PFnRowsHidden
open Go.RowKit Go.Proofs.YthjbmojacgkdcaaGreatDoorW.PrintWords Go.Proofs.YthjbmojacgkdcaaGreatDoorW.PrintLast Go.Proofs.YthjbmojacgkdcaaGreatDoorW.PrintMore Go.Proofs.YthjbmojacgkdcaaGreatDoor.Sq
attribute [local go_sem] max2_int min2_int max_two min_two max_three min_three max_four min_four   -- for this text's walks alone
set_option linter.unusedVariables false
set_option linter.unusedSimpArgs false

/-! ### impl_Clue: function 58 -/
def impl_Clue.f (l0 : List (S37)) : Option (List (S37)) := if l0.length < 4398046511104 then (some l0) else none
set_option maxHeartbeats 8000000 in
set_option maxRecDepth 100000 in
theorem impl_Clue.calls (A0 : Option Addr) (c0 : Nat) (l0 : List (S37)) (r : List (S37)) (w : World) (hr0 : Kd.C k37 w A0 l0.length l0) (hc0 : l0.length ≤ c0) (h : impl_Clue.f l0 = some r) :
  Calls Tryz.prog 58 #[.slice A0 l0.length c0] w fun e w' => ∃ v0_ : Value, e = .returned (v0_) ∧ Kd.R k37 37 w' w.heap.size (fun _ => True) v0_ r ∧ Below w.heap.size w w' := by
 have HR0 := Aside0.mk hr0
 have HC0 := Aside0.mk hc0
 clear hr0 hc0
 have HB := Aside0.mk (Below.refl w.heap.size w)
 unfold impl_Clue.f at h
 by_cases c2 : l0.length < 4398046511104
 ·rw [if_pos c2] at h
  have LMc2 := Aside0.mk c2
  clear c2
  obtain rfl := Option.some.inj h
  clear h
  have qnil : ∀ (w : World) (a : Option Addr) (n c n' c' : Nat), (binOp .eql 26 (.slice a n c) (.slice none n' c')).run Tryz.prog w = .ok (.bool a.isNone) w := fun w a n c n' c' => Lib.run_eql_slice_nil w _ _ a n c n' c' Tryz.underlying26
  cases A0 with
  | none =>
   obtain rfl : l0 = [] := by
    rcases l0 with _ | ⟨x, l0⟩
    ·rfl
    obtain ⟨ad, he, _⟩ := HR0.out.2.2 (by simp)
    cases he
   go_enter Tryz.func58, Tryz.ntmps58
   go_wp2
   go_ret
   exact ⟨_, rfl, Kd.R_nil _ _ _ _ _, by repeat (first | exact HB.out | apply pw_below_drewN)⟩
  | some ad0 =>
   obtain ⟨y172, hy172⟩ : ∃ y_ : List (S37), y_ = ([] : List (S37)) := ⟨_, rfl⟩
   have Ny172 := Aside0.mk hy172
   obtain ⟨y175, hy175⟩ : ∃ y_ : List (S37), y_ = y172 ++ l0 := ⟨_, rfl⟩
   have Ny175 := Aside0.mk hy175
   have E175 := Aside0.mk (show y175 = l0 by rw [hy175, hy172]; rfl)
   have LM := Aside0.mk (show y172.length + l0.length < 4398046511104 by rw [hy172]; simpa using LMc2.out)
   clear hy172 hy175
   go_enter Tryz.func58, Tryz.ntmps58
   go_wp2_with (first | ((with_reducible refine gd 5 ?_); refine Kd.R_lit k37 _ 37 ?hg (N := 5) ?hd (xs := ([] : List (S37))) (inner := []) (ok := fun _ => True) (okp := fun _ => True) ?hr ?hp (fun _ hk => hk) trivial (Below.refl _ _) (Nat.le_refl _) (by simp) ?_; (case hd => rfl); (case hg => rfl); (case hr => first | (go_simp; done) | (go_simp; rfl)); (case hp => exact (Reps.none _ _)); intro v173 w3 ho4 hb hg_ hnew_; clear hg_ hnew_; rw [← Ny172.out] at ho4; have HO174 := Aside0.mk (Kd.R_lower ho4 (below_size HB.out)); have n0_ := Aside0.mk (below_step HB.out hb); clear HB; have HB := n0_; clear n0_ hb ho4) | ((with_reducible refine gate_builtin (b := .append) (xs := #[.tmp 5, .tmp 6]) rfl ?_); at_builtin; refine Kd.R_append_rows k37 (w0 := w) w.heap.size rfl (.tmp 5) (.tmp 6) 26 37 (.agg #[(.int .i64 0), (.int .i64 0), (.int .i64 0), (.int .i64 0)]) 32 rfl Tryz.underlying26 info37 rfl (by decide) (by omega) v173 y172 l0 _ _ _ (fun _ => True) (fun _ => False) rfl rfl ?aO ?aR (fun _ _ h => h) (fun _ h => h.elim) ?aF ?aB ?aS ?aL ?_; (case aR => exact cb HR0); (case aB => repeat (first | exact HB.out | apply pw_below_drewN | apply below_alloc)); (case aF => exact (fun _ _ => trivial)); (case aO => (with_reducible repeat (first | apply Kd.R_alloc | apply Kd.R_drewN | apply Kd.R_drew)); exact HO174.out); (case aS => exact (below_size (by repeat (first | exact HB.out | apply pw_below_drewN | apply below_alloc)))); (case aL => have := LM.out; omega); intro v176 w5 ho hb hg hat; rw [← Ny175.out] at ho; have n0_ := Aside0.mk hb; have HO177 := Aside0.mk ho; clear HB HO174; have HB := n0_; clear n0_ ho hb hg hat))
   go_ret
   exact ⟨_, rfl, by (with_reducible repeat (first | apply Kd.R_alloc | apply Kd.R_drewN | apply Kd.R_drew)); exact E175.out ▸ HO177.out, by repeat (first | exact HB.out | apply pw_below_drewN)⟩
 rw [if_neg c2] at h
 exact absurd h (by simp)

/-! ### impl_without: function 59 -/
theorem impl_without_zero {P : Program} (w : World) (t e ty : TypeId) (z : Value) (m : Nat) (ht : P.underlying t = some (.slice e)) (hv : ∀ w, (zeroValue e).run P w = .ok z w) (hz : ∀ u ∈ (Builtin.zeroCells z.cells (m + 1)).toList, u.oneCell' = true) (b o c : Nat)
    (hc : ∀ j, j < (Builtin.zeroCells z.cells (m + 1)).toList.length → (w.cell? ⟨b, o + j, none⟩).isSome = true) (hf : ∀ j, j < (Builtin.zeroCells z.cells (m + 1)).toList.length → w.frozen? ⟨b, o + j, none⟩ = false) :
    (Builtin.clear_ #[t] ty #[.slice (some ⟨b, o, none⟩) (m + 1) c]).run P w = .ok (.tuple #[]) (w.setCells b o (Builtin.zeroCells z.cells (m + 1)).toList) := by
  have hst := run_storeCells_cells (P := P) b o (Builtin.zeroCells z.cells (m + 1)).toList 0 w (by simpa using hc) (by simpa using hf) hz
  simp only [Nat.add_zero] at hst
  simp [Builtin.clear_, run_underlying ht, hv]
  simpa using congrArg (fun r => Result.andThen r fun _ w' => Result.ok (Value.tuple #[]) w') hst
theorem impl_without_ones {α : Type} {R : α → List Value → Prop} {size : Nat} {ps : List α} {cs : List Value} (hs : 0 < size) (h : Reps R size ps cs) (h1 : ∀ p c, R p c → ∀ u ∈ c, u.oneCell' = true) : ∀ u ∈ cs, u.oneCell' = true := by
  intro u hu
  obtain ⟨q, hq, rfl⟩ := List.mem_iff_getElem.1 hu
  have hql : q / size < ps.length := by
    rw [Nat.div_lt_iff_lt_mul hs, ← h.1]
    exact hq
  have hc := h.2 (q / size) _ (List.getElem?_eq_getElem hql)
  refine h1 _ _ hc _ ?_
  rw [List.mem_iff_getElem?]
  refine ⟨q % size, ?_⟩
  rw [List.getElem?_take, if_pos (Nat.mod_lt _ hs), List.getElem?_drop, Nat.mul_comm, Nat.div_add_mod, List.getElem?_eq_getElem hq]
theorem impl_without_cut {α : Type} {R : α → List Value → Prop} {ps : List α} {cs : List Value} (h : Reps R 4 ps cs) (i : Nat) (hi : i < ps.length) : Reps R 4 (ps.eraseIdx i) (cs.take (i * 4) ++ cs.drop ((i + 1) * 4)) := by
  have hl := h.1
  refine ⟨by simp [List.length_eraseIdx, hi]; omega, fun j p hj => ?_⟩
  have hlt : j < (ps.eraseIdx i).length := (List.getElem?_eq_some_iff.1 hj).1
  rw [List.length_eraseIdx, if_pos hi] at hlt
  rw [List.getElem?_eraseIdx] at hj
  by_cases hji : j < i
  · rw [if_pos hji] at hj
    have := h.2 j p hj
    rw [List.drop_append_of_le_length (by simp; omega), List.take_append_of_le_length (by simp; omega), List.drop_take, List.take_take, show min 4 (i * 4 - j * 4) = 4 by omega]
    exact this
  · rw [if_neg hji] at hj
    have := h.2 (j + 1) p hj
    rw [List.drop_append, List.drop_of_length_le (by simp; omega), List.nil_append, List.length_take, List.drop_drop, show (i + 1) * 4 + (j * 4 - min (i * 4) cs.length) = (j + 1) * 4 by omega]
    exact this
theorem impl_without_app {ops : Array Oper} {P : Program} {o : Oper} {a : Act} {w : World} {K : Act → World → Prop} {Q : Exit → Act → World → Prop} {E : Prop}
    (hg : o.guard = none) (d x : Operand) (dT sT : TypeId) (hop : o.op = Op.call { callee := Callee.builtin Builtin.append, args := #[d, x], argTypes := #[dT, sT] })
    (v u : Value) (hd : a.eval d = v) (hx : a.eval x = u) {v' : Value} {w' : World} (hr : (Builtin.append_ #[dT, sT] o.type #[v, u]).run P w = .ok v' w') (hK : K (a.put o.dst v') w') :
    if Region.wanted o (yielded ops a.tmps) = true then Oper.wp P o a w K Q else E := by
  have hw : Region.wanted o (yielded ops a.tmps) = true := by simp [Region.wanted, hg]
  rw [if_pos hw]
  unfold Oper.wp
  simp [execOp, hop, resolve, invoke, builtin, hd, hx, hr, Result.andThen]
  exact hK
theorem impl_without_row {w : World} {g t : Nat} {cs : Array Value} (h : w.heap[g]? = some (.cells cs t (0, 0))) (cs' : Array Value) : (w.setRow g cs').heap[g]? = some (.cells cs' t (0, 0)) := by
  simp [World.setRow, Array.getElem?_modify, h]
theorem impl_without_set {t g : Nat} : ∀ (vs : List Value) (o : Nat) (W : World) (L : List Value), W.heap[g]? = some (.cells L.toArray t (0, 0)) → o + vs.length ≤ L.length → ∃ L' : List Value, (W.setCells g o vs).heap[g]? = some (.cells L'.toArray t (0, 0)) ∧ L'.length = L.length ∧ L'.take o = L.take o
  | [], o, W, L, h, _ => ⟨L, h, rfl, rfl⟩
  | v :: r, o, W, L, h, hl => by
    rw [World.setCells]
    simp only [List.length_cons] at hl
    have h1 := blk_set h o v
    rw [show L.toArray.setIfInBounds o v = (L.set o v).toArray by simp] at h1
    obtain ⟨L', h2, h3, h4⟩ := impl_without_set r (o + 1) _ (L.set o v) h1 (by simp; omega)
    refine ⟨L', h2, by simpa using h3, ?_⟩
    have := congrArg (List.take o) h4
    rw [List.take_take, List.take_take, show min o (o + 1) = o by omega, List.take_set_of_le (Nat.le_refl _)] at this
    exact this
theorem impl_without_below {b0 : Nat} {w0 : World} {B : Nat} (hB : b0 ≤ B) : ∀ (vs : List Value) (o : Nat) (W : World), Below b0 w0 W → Below b0 w0 (W.setCells B o vs)
  | [], _, _, h => h
  | v :: r, o, W, h => by
    rw [World.setCells]
    exact impl_without_below hB r (o + 1) _ (h.setCell hB v)
theorem impl_without_rowb {b0 : Nat} {w0 w : World} {g : Nat} (hg : b0 ≤ g) (h : Below b0 w0 w) (cs : Array Value) : Below b0 w0 (w.setRow g cs) :=
  ⟨h.os, h.tape, h.output, by simpa [World.setRow] using h.size, fun k hk => by
    have := h.block k hk
    rw [← this]
    simp only [World.setRow, Array.getElem?_modify]
    rw [if_neg (by omega)]⟩
set_option maxHeartbeats 8000000 in
set_option maxRecDepth 100000 in
theorem impl_without_del (g n cap i base : Nat) (xs : List S37) (w : World) (ho : Kd.R k37 37 w base (fun _ => True) (.slice (some ⟨g, 0, none⟩) n cap) xs) (hn : xs.length = n) (hi : i < n) (hlim : n < 1000000000000) :
    Calls Tryz.prog 79 #[.slice (some ⟨g, 0, none⟩) n cap, .int .i64 (i : Int), .int .i64 ((i : Int) + 1)] w fun e w' => ∃ v0, e = .returned v0 ∧ Kd.R k37 37 w' base (fun _ => True) v0 (xs.eraseIdx i) ∧ (∀ b0 w0, b0 ≤ base → Below b0 w0 w → Below b0 w0 w') := by
  obtain ⟨_, inner, hown, hreps⟩ := ho
  have hreps' : Reps (k37.M w base (fun k => True ∧ some k ≠ (Value.slice (some ⟨g, 0, none⟩) n cap).ownBlock)) 4 xs inner := hreps
  have hown' : w.ownsRow base 37 4 (.slice (some ⟨g, 0, none⟩) n cap) xs.length inner := hown
  clear hreps hown
  rcases hown'.2 with ⟨h, _⟩ | ⟨g', cap', cur, heq, hbg, hblk, hncap, hmax, hsz, htake⟩
  · cases h
  injection heq with e1 e2 e3
  injection e1 with e1
  injection e1 with e1
  subst e1 e3
  have hones := impl_without_ones (by omega) hreps' (fun p c hp u hu => k37.K_one (k37.K_of_M hp) u hu)
  have hil : inner.length = n * 4 := by have := hreps'.1; rw [hn] at this; exact this
  rw [hn] at hncap htake
  have mixed : Tryz.prog.follows Departure.mixedOrders = true := by kernel_rfl
  have LIM := Aside0.mk hlim
  have HI := Aside0.mk hi
  have HNC := Aside0.mk hncap
  have HBG := Aside0.mk hbg
  have HBLK := Aside0.mk hblk
  have HSZ := Aside0.mk hsz
  have HTK := Aside0.mk htake
  have HONES := Aside0.mk hones
  have HIL := Aside0.mk hil
  have HREPS := Aside0.mk hreps'
  have HN := Aside0.mk hn
  have HMAX := Aside0.mk hmax
  clear hblk hsz htake hones hil hreps' hown' hbg hmax hn e2
  have p1 : (0 : Int) ≤ (i : Int) := by omega
  have p2 : (i : Int) ≤ (i : Int) + 1 := by omega
  have p3 : (i : Int) + 1 ≤ (n : Int) := by omega
  have p4 : (n : Int) ≤ (cap : Int) := by omega
  have p5 : ((i : Int) + 1).toNat = i + 1 := by omega
  have p6 : (i : Int) ≤ (cap : Int) := by omega
  have p7 : (i : Int) + 1 ≤ (cap : Int) := by omega
  have p8 : ((i : Int) == (i : Int) + 1) = false := beq_eq_false_iff_ne.mpr (by omega)
  have p9 : ¬ ((i : Int) = (i : Int) + 1) := by omega
  have p10 : (0 : Int) ≤ (i : Int) + 1 := by omega
  obtain ⟨i0, hi0, hz0⟩ := Option.map_eq_some_iff.1 info37
  simp only [Prod.mk.injEq] at hz0
  obtain ⟨hz0, hz1, hz2⟩ := hz0
  obtain ⟨A, hA, hsrc⟩ : ∃ A : Addr, (if cap = i + 1 then some (⟨g, 0, none⟩ : Addr) else some ⟨g, (i + 1) * 4, none⟩) = some A ∧ ∀ n1 j u, (inner.drop ((i + 1) * 4))[j]? = some u → (w.drewN n1).cell? (A.add j) = some u := by
    by_cases hc : cap = i + 1
    · refine ⟨_, by rw [if_pos hc], fun n1 j u hu => ?_⟩
      rw [List.drop_of_length_le (by have := HIL.out; omega)] at hu
      simp at hu
    · refine ⟨_, by rw [if_neg hc], fun n1 j u hu => ?_⟩
      have hj := (List.getElem?_eq_some_iff.1 hu).1
      rw [List.length_drop] at hj
      rw [List.getElem?_drop, ← HTK.out, List.getElem?_take, if_pos (by have := HIL.out; omega)] at hu
      rw [Addr.add_lit]
      refine (blk_cell (w := w.drewN n1) HBLK.out _).trans ?_
      rw [← Array.getElem?_toList]
      exact hu
  have hrun : ∀ n1, (Builtin.append_ #[26, 26] 26 #[.slice (some ⟨g, 0, none⟩) i cap, .slice (some A) (n - (i + 1)) (cap - (i + 1))]).run Tryz.prog (w.drewN n1) = .ok (.slice (some ⟨g, 0, none⟩) (i + (n - (i + 1))) cap) ((w.drewN n1).setRow g (cur.toList.take (i * 4) ++ inner.drop ((i + 1) * 4) ++ cur.toList.drop (i * 4 + (inner.drop ((i + 1) * 4)).length)).toArray) := fun n1 => by
    have := run_append_room (P := Tryz.prog) (w.drewN n1) 26 26 37 i0 Tryz.underlying26 hi0 g i cap cur HBLK.out A (n - (i + 1)) (cap - (i + 1)) (inner.drop ((i + 1) * 4)) (by rw [hz1, List.length_drop]; have := HIL.out; omega) (hsrc n1) (fun u hu => HONES.out u (List.mem_of_mem_drop hu)) (by omega) (by rw [hz1, List.length_drop]; have := HIL.out; have := HSZ.out; omega)
    rw [hz1] at this
    exact this
  have HRUN := Aside0.mk hrun
  have HNC2 := Aside0.mk hncap
  have hz0' := hz0
  have hv : ∀ w : World, (zeroValue 37).run Tryz.prog w = .ok (.agg #[(.int .i64 0), (.int .i64 0), (.int .i64 0), (.int .i64 0)]) w := fun w => by
    simp [zeroValue, typeInfo, hi0, hz0']
  obtain ⟨L, hL⟩ : ∃ L : List Value, L = cur.toList.take (i * 4) ++ (inner.drop ((i + 1) * 4) ++ cur.toList.drop (i * 4 + (inner.length - (i + 1) * 4))) := ⟨_, rfl⟩
  have hLl : L.length = cap * 4 := by
    have := HIL.out
    have := HSZ.out
    rw [hL]
    simp only [List.length_append, List.length_take, List.length_drop, Array.length_toList]
    omega
  have hLt : L.take ((i + (n - (i + 1))) * 4) = inner.take (i * 4) ++ inner.drop ((i + 1) * 4) := by
    have h1 := HIL.out
    have h2 := HSZ.out
    have h3 := HTK.out
    have h4 : cur.toList.take (i * 4) = inner.take (i * 4) := by rw [← h3, List.take_take, show min (i * 4) (n * 4) = i * 4 by omega]
    have h5 : (inner.take (i * 4) ++ inner.drop ((i + 1) * 4)).length = (i + (n - (i + 1))) * 4 := by simp only [List.length_append, List.length_take, List.length_drop]; omega
    rw [hL, h4, ← List.append_assoc, ← h5, List.take_left]
  have hblk1 : ∀ n1, ((w.drewN n1).setRow g L.toArray).heap[g]? = some (.cells L.toArray 37 (0, 0)) := fun n1 => impl_without_row (w := w.drewN n1) HBLK.out _
  have hzl : (Builtin.zeroCells (Value.agg #[(.int .i64 0), (.int .i64 0), (.int .i64 0), (.int .i64 0)]).cells 1).toList = [.int .i64 0, .int .i64 0, .int .i64 0, .int .i64 0] := by first | kernel_rfl | decide | (simp [Builtin.zeroCells, Value.cells]; done)
  have hcl : ∀ n1, (Builtin.clear_ #[26] 0 #[.slice (some ⟨g, (i + (n - (i + 1))) * 4, none⟩) (n - (i + (n - (i + 1)))) (cap - (i + (n - (i + 1))))]).run Tryz.prog ((w.drewN n1).setRow g L.toArray) = .ok (.tuple #[]) (((w.drewN n1).setRow g L.toArray).setCells g ((i + (n - (i + 1))) * 4) [.int .i64 0, .int .i64 0, .int .i64 0, .int .i64 0]) := fun n1 => by
    rw [show n - (i + (n - (i + 1))) = 0 + 1 by omega]
    have := impl_without_zero (P := Tryz.prog) ((w.drewN n1).setRow g L.toArray) 26 37 0 _ 0 Tryz.underlying26 hv (by intro u hu; rw [hzl] at hu; simp at hu; rw [hu]; rfl) g ((i + (n - (i + 1))) * 4) (cap - (i + (n - (i + 1)))) (fun j hj => by
      rw [hzl] at hj
      simp at hj
      rw [blk_cell (hblk1 n1)]
      simp
      omega) (fun j hj => blk_frozen (hblk1 n1) _)
    rw [hzl] at this
    exact this
  have HL := Aside0.mk hL
  have HLL := Aside0.mk hLl
  have HLT := Aside0.mk hLt
  have HCL := Aside0.mk hcl
  have HB1 := Aside0.mk hblk1
  clear hi hncap hlim hrun hsrc hz0 hz2 hz0' hL hLl hLt hcl hblk1 hv hzl
  go_enter Tryz.func79, Tryz.ntmps79
  go_wp2
  go_region_law_o (refine impl_without_app rfl _ _ 26 26 rfl _ _ (by simp [Act.eval, Act.put]) (by simp [Act.eval, Act.put]) (HRUN.out _) ?_)
  go_wp2_with (rw [← HL.out, HCL.out])
  go_ret
  obtain ⟨L', g1, g2, g3⟩ := impl_without_set (t := 37) (g := g) [.int .i64 0, .int .i64 0, .int .i64 0, .int .i64 0] ((i + (n - (i + 1))) * 4) _ L (HB1.out 1) (by have := HLL.out; have := HI.out; have := HNC.out; simp; omega)
  have hcut := impl_without_cut HREPS.out i (by rw [HN.out]; exact HI.out)
  have hlen : (xs.eraseIdx i).length = i + (n - (i + 1)) := by have := HI.out; have := HN.out; rw [List.length_eraseIdx, if_pos (by omega)]; omega
  refine ⟨_, rfl, ⟨fun _ _ => trivial, inner.take (i * 4) ++ inner.drop ((i + 1) * 4), ?_, ?_⟩, fun b0 w0 hb h0 => impl_without_below (Nat.le_trans hb HBG.out) _ _ _ (impl_without_rowb (Nat.le_trans hb HBG.out) (pw_below_drewN h0 1) _)⟩
  · refine ⟨hcut.1, .inr ⟨g, cap, L'.toArray, by rw [hlen]; rfl, HBG.out, g1, by rw [hlen]; have := HI.out; have := HNC.out; omega, HMAX.out, by show L'.length = _; rw [g2]; exact HLL.out, ?_⟩⟩
    show L'.take ((xs.eraseIdx i).length * 4) = _
    rw [hlen, g3]
    exact HLT.out
  · exact hcut.imp_ (fun p c hp => by
      obtain rfl := k37_openM hp
      exact k37_mkM _ _ _ p)
theorem impl_without_nonnil {w : World} {base : Nat} {ok : Nat → Prop} {v : Value} {l : List S37} (h : Kd.R k37 37 w base ok v l) (hl : 0 < l.length) : ∃ g c, v = .slice (some ⟨g, 0, none⟩) l.length c := by
  obtain ⟨_, inner, ho, _⟩ := h
  obtain ⟨g, cap, rfl, _, _⟩ := ho.form hl
  exact ⟨g, cap, rfl⟩
def impl_without.f (l0 : List S37) (a1 : Int) : Option (List S37) := (impl_Clue.f l0).bind fun t => if 0 ≤ a1 ∧ a1 < (t.length : Int) ∧ t.length < 1000000000000 then some (t.eraseIdx a1.toNat) else none
set_option maxHeartbeats 8000000 in
set_option maxRecDepth 100000 in
theorem impl_without.calls (A0 : Option Addr) (c0 : Nat) (l0 : List S37) (a1 : Int) (r : List S37) (w : World) (hr0 : Kd.C k37 w A0 l0.length l0) (hc0 : l0.length ≤ c0) (h : impl_without.f l0 a1 = some r) :
  Calls Tryz.prog 59 #[.slice A0 l0.length c0, .int .i64 a1] w fun e w' => ∃ v0_ : Value, e = .returned (v0_) ∧ Kd.R k37 37 w' w.heap.size (fun _ => True) v0_ r ∧ Below w.heap.size w w' := by
 have HR0 := Aside0.mk hr0
 have HC0 := Aside0.mk hc0
 clear hr0 hc0
 have HB := Aside0.mk (Below.refl w.heap.size w)
 replace h := Option.bind_eq_some_iff.mp h
 obtain ⟨t, b1, h⟩ := h
 have B1 := Aside0.mk b1
 clear b1
 by_cases hc : 0 ≤ a1 ∧ a1 < (t.length : Int) ∧ t.length < 1000000000000
 ·rw [if_pos hc] at h
  obtain rfl := Option.some.inj h
  clear h
  obtain ⟨i, rfl⟩ : ∃ i : Nat, a1 = (i : Int) := ⟨a1.toNat, by omega⟩
  have HI := Aside0.mk (show i < t.length by omega)
  have HLM := Aside0.mk hc.2.2
  have ew : IntKind.i64.wrap ((i : Int) + 1) = (i : Int) + 1 := by have := hc.2.2; have e64 : IntKind.i64.bits = 64 := rfl; simp [IntKind.wrap, e64, IntKind.signed]; omega
  have ew2 : wrap64 ((i : Int) + 1) = (i : Int) + 1 := by have := hc.2.2; unfold wrap64; omega
  clear hc
  go_enter Tryz.func59, Tryz.ntmps59
  go_wp2_with (first | (go_at_call 58; refine (impl_Clue.calls A0 c0 l0 t _ HR0.out HC0.out B1.out).mono ?_; rintro e w' ⟨v1, rfl, ho1, hb⟩; obtain ⟨g1, c1, rfl⟩ := impl_without_nonnil ho1 (by have := HI.out; omega); have HO1 := Aside0.mk ho1; have HB1 := Aside0.mk (below_step HB.out hb); clear ho1 HB hb; have HB := HB1; clear HB1) | (go_at_call 79; refine (impl_without_del g1 t.length c1 i w.heap.size t _ HO1.out rfl HI.out HLM.out).mono ?_; rintro e w' ⟨v2, rfl, ho2, hb2⟩; have HO2 := Aside0.mk ho2; have HB1 := Aside0.mk (hb2 _ _ (Nat.le_refl _) HB.out); clear ho2 HB hb2; have HB := HB1; clear HB1))
  go_ret
  exact ⟨_, rfl, HO2.out, HB.out⟩
 rw [if_neg hc] at h
 exact absurd h (by simp)

/-! ### impl_HarderPuzzle: function 16 -/
def impl_HarderPuzzle.l0 : Nat → Int → Int → List (S37) → Int → List (S37) → Option (Int × (List (S37)) × Bool)
  | 0, _, _, _, _, _ => none
  | k + 1, x7, x403000, x403001, x410000, x410001 => if x7 < (x410001.length : Int) then ((impl_without.f x410001 x7).bind fun t410 => ((impl_solutions.f k x403000 t410).bind fun t413 => (if (t413.length : Int) = 1 then (impl_HarderPuzzle.l0 k x7 x403000 x403001 x410000 t410) else (impl_HarderPuzzle.l0 k (wrap64 (x7 + 1)) x403000 x403001 x410000 x410001)))) else (some (x410000, x410001, true))
def impl_HarderPuzzle.f (k : Nat) (a0_0 : Int) (l0_1 : List (S37)) : Option (Int × (List (S37)) × Bool) := (impl_IsSolved.f k a0_0 l0_1).bind fun bt404 => (if bt404.1 = true then ((impl_Clue.f l0_1).bind fun t406 => (impl_HarderPuzzle.l0 k 0 a0_0 l0_1 a0_0 t406)) else (some (0, ([] : List (S37)), false)))
theorem impl_HarderPuzzle.mono_l : ∀ k, (∀ y0 y1 y2 y3 y4, LeO (impl_HarderPuzzle.l0 k y0 y1 y2 y3 y4) (impl_HarderPuzzle.l0 (k + 1) y0 y1 y2 y3 y4))
  | 0 => fun _ _ _ _ _ r h => by simp [impl_HarderPuzzle.l0] at h
  | k + 1 => by
    have ih0 := impl_HarderPuzzle.mono_l k
    · intro y0 y1 y2 y3 y4
      unfold impl_HarderPuzzle.l0
      repeat' first
      | (with_reducible exact ih0 _ _ _ _ _)
      | (with_reducible exact impl_IsSolved.mono _ _ _)
      | (with_reducible exact impl_solutions.mono _ _ _)
      | (with_reducible exact LeO.refl _)
      | (with_reducible exact LeO.none _)
      | (with_reducible refine LeO.ite ?_ ?_)
      | (with_reducible refine LeO.bind ?_ (fun _ => ?_))
      | exact ih0 _ _ _ _ _
      | exact impl_IsSolved.mono _ _ _
      | exact impl_solutions.mono _ _ _
      | exact LeO.none _
      | refine LeO.ite ?_ ?_
      | refine LeO.bind ?_ (fun _ => ?_)
theorem impl_HarderPuzzle.mono : ∀ a0 a1 k, LeO (impl_HarderPuzzle.f k a0 a1) (impl_HarderPuzzle.f (k + 1) a0 a1) := by
  intro a0 a1 k
  have ih0 := impl_HarderPuzzle.mono_l k
  unfold impl_HarderPuzzle.f
  repeat' first
      | (with_reducible exact ih0 _ _ _ _ _)
      | (with_reducible exact impl_IsSolved.mono _ _ _)
      | (with_reducible exact impl_solutions.mono _ _ _)
      | (with_reducible exact LeO.refl _)
      | (with_reducible exact LeO.none _)
      | (with_reducible refine LeO.ite ?_ ?_)
      | (with_reducible refine LeO.bind ?_ (fun _ => ?_))
      | exact ih0 _ _ _ _ _
      | exact impl_IsSolved.mono _ _ _
      | exact impl_solutions.mono _ _ _
      | exact LeO.none _
      | refine LeO.ite ?_ ?_
      | refine LeO.bind ?_ (fun _ => ?_)
def impl_HarderPuzzle.T4 : Bool × List (List Nat × List Nat) := (true, [([], []), ([0], [0]), ([], []), ([2], [2]), ([3], [3]), ([1, 4], [1, 4]), ([], []), ([6, 5, 4, 0, 1, 2, 3, 4, 5, 6], [5, 6])])
def impl_HarderPuzzle.B4 : List Nat := [0, 1, 0, 4, 12, 31, 0, 127]
theorem impl_HarderPuzzle.tab4 : rtab .any (opsOf Tryz.f16 4) = impl_HarderPuzzle.T4 := by kernel_rfl
theorem impl_HarderPuzzle.bits4 : waitsOk impl_HarderPuzzle.T4.2 impl_HarderPuzzle.B4 = true := by kernel_rfl
set_option maxHeartbeats 8000000 in
set_option maxRecDepth 100000 in
theorem impl_HarderPuzzle.calls (k : Nat) (a0_0 : Int) (A0_1 : Option Addr) (c0_1 : Nat) (l0_1 : List (S37)) (r1 : Int) (r2 : List (S37)) (r3 : Bool) (w : World) (hm : Dr.Tab w) (hr0_1 : Kd.C k37 w A0_1 l0_1.length l0_1) (hc0_1 : l0_1.length ≤ c0_1) (h : impl_HarderPuzzle.f k a0_0 l0_1 = some (r1, r2, r3)) :
  Calls Tryz.prog 16 #[.agg #[.int .i64 a0_0, .slice A0_1 l0_1.length c0_1]] w fun e w' => ∃ v1_ : Value, e = .returned (.tuple #[.agg #[.int .i64 r1, v1_], .bool r3]) ∧ Kd.R k37 37 w' w.heap.size (fun _ => True) v1_ r2 ∧ Below w.heap.size w w' := by
 have hu28 := Tryz.underlying28
 have HR0_1 := Aside0.mk hr0_1
 have HC0_1 := Aside0.mk hc0_1
 clear hr0_1 hc0_1
 have HB := Aside0.mk (Below.refl w.heap.size w)
 have HMM := Aside0.mk hm
 clear hm
 unfold impl_HarderPuzzle.f at h
 have H := h
 clear h
 obtain ⟨⟨t404, t405⟩, A2, H⟩ := ob H
 (try dsimp only at H)
 go_enter Tryz.func16, Tryz.ntmps16
 try go_wp2_with (first | ((with_reducible refine gd 1 ?_); refine bx 1 28 #[.int .i64 a0_0, .slice A0_1 l0_1.length c0_1] ?_; intro gb402 hg w5 hbox hb; have BK402 := hbox; have GW402 := gs hg; have GE402 := gs hg; replace HB := bs hb; clear hb hbox hg) | ((with_reducible refine gd 2 ?_); refine bx 2 28 #[.int .i64 0, .slice none 0 0] ?_; intro gb403 hg w6 hbox hb; have BK403 := hbox; have GW403 := gs hg; have GE403 := gs hg; replace HB := bs hb; have ⟨NB402_403, NB403_402⟩ := nn BK402 hg; replace BK402 := nk BK402 hb; clear hb hbox hg; have hnb7 := nb NB402_403; obtain ⟨hcz8_0, hcz8_1, hfz8_0, hfz8_1⟩ := z2 BK402; refine halt ?_))
 by_cases c3 : t404 = true
 ·subst c3
  rw [if_pos rfl] at H
  obtain ⟨t406, A4, H⟩ := ob H
  (try dsimp only at H)
  have H' := Aside0.mk H
  clear H
  refine Aside0.mk ?_
  try go_wp2_with (((with_reducible refine gc 18 ?_); refine gl (some 11) Tryz.func18 #[.agg #[.int .i64 a0_0, .slice A0_1 l0_1.length c0_1]] ?_; (with_reducible refine (impl_IsSolved.calls k a0_0 _ _ l0_1 true t405 _ ?_ ?_ ?_ A2.out).mono ?_); exact Dr.mm HMM; exact cb HR0_1; exact HC0_1.out; rintro e w9 ⟨rfl, hb⟩; refine ⟨_, rfl, ?_⟩; replace BK402 := nk BK402 hb; replace BK403 := nk BK403 hb; replace HB := bs hb; (try clear hb)))
  replace BK402 := Aside0.mk (blk_drew BK402.out)
  replace BK403 := Aside0.mk (blk_drew BK403.out)
  replace HB := Aside0.mk (below_drew1 HB.out)
  refine start_ (n := 8) (S := fun w' => w'.cell? ⟨gb402, 0, none⟩ = some (.int .i64 a0_0) ∧ w'.cell? ⟨gb402, 1, none⟩ = some (.slice A0_1 l0_1.length c0_1)) (ds := []) (tb 8 0) (by kernel_rfl) rfl rfl ⟨ec BK402, ec BK402⟩ (fun hHeld => ?_); refine with_tabW impl_HarderPuzzle.tab4 impl_HarderPuzzle.bits4 (fun HT_ HW_ => ?_)
  generalize w9.drew = w10 at BK402 BK403 HB hHeld ⊢
  refine pu 0 (some 17) (tb 8 1) ?_
  refine pu 2 (some 19) (tb 8 5) ?_
  refine tk 1 (some 18) (tb 8 7) hHeld ?_
  refine tk 3 (some 20) (tb 8 15) hHeld ?_
  refine join_ (σ := Value × Nat) 1 (tb 8 127) (fun s_ => [(21, s_.1), (6, .pointer (some ⟨s_.2, 0, none⟩)), (22, .agg #[.int .i64 a0_0, s_.1])]) (fun s_ w' => (w'.cell? ⟨gb402, 0, none⟩ = some (.int .i64 a0_0) ∧ w'.cell? ⟨gb402, 1, none⟩ = some (.slice A0_1 l0_1.length c0_1)) ∧ (Kd.R k37 37 w' w.heap.size (fun _ => True) s_.1 t406) ∧ (w'.heap[gb402]? = some (.cells #[.int .i64 a0_0, .slice A0_1 l0_1.length c0_1] 28 (0, 0))) ∧ (w'.heap[gb403]? = some (.cells #[.int .i64 0, .slice none 0 0] 28 (0, 0))) ∧ (w'.heap[s_.2]? = some (.cells #[.int .i64 0, .slice none 0 0] 28 (0, 0))) ∧ (w.heap.size ≤ s_.2) ∧ (w.heap.size ≤ s_.2) ∧ (gb402 ≠ s_.2) ∧ (s_.2 ≠ gb402) ∧ (gb403 ≠ s_.2) ∧ (s_.2 ≠ gb403) ∧ (Below w.heap.size w w')) ?_ ?_
  rotate_left
  ·intro hCont
   refine two_ (i := 4) (j := 6) (Ni := some 21) (Nj := some 6) (tb 8 31) (tb 8 79) rfl rfl rfl rfl (two_of HT_.out (by kernel_rfl)) (by decide) (by decide) (fun K hK => ?_) (fun K hK => ?_)
   ·skip
    refine go1 Tryz.func58 #[.slice A0_1 l0_1.length c0_1] ?_
    with_reducible refine (impl_Clue.calls _ _ l0_1 t406 _ ?side1 ?side2 A4.out).mono ?_
    (case side1 => exact cb HR0_1)
    (case side2 => exact HC0_1.out)
    rintro e w11 ⟨v407, rfl, ho0, hb⟩
    refine ⟨_, rfl, ?_⟩
    have HO408 := Aside0.mk (Kd.R_lower ho0 (below_size bw))
    replace BK402 := nk BK402 hb
    replace BK403 := nk BK403 hb
    replace HB := bs hb
    (try clear hb)
    (try clear hb2)
    (try clear ho0)
    obtain ⟨Ao12, co12, eo12⟩ := Kd.R_slice HO408.out
    (first | subst eo12 | (injection eo12 with f1_ f2_ f3_; have f4_ := f1_.symm; have f5_ := f3_.symm; clear f1_ f2_ f3_; subst f4_; subst f5_))
    refine hK.out _ _ ⟨ec BK402, ec BK402⟩ (fun hHeld => ?_)
    clear hK K
    refine nm (some 21) ?_
    refine pu 5 (some 22) (tb 8 63) ?_
    refine one_ (i := 6) (N := some 6) (tb 8 127) rfl rfl (one_of HT_.out (by kernel_rfl)) (by decide) (fun K hK => ?_)
    refine box_step ?hg (N := 6) ?hd (cs := #[.int .i64 0, .slice none 0 0]) (t := 28) ?hr ?_; (case hd => rfl); (case hg => rfl); (case hr => first | (go_simp; done) | (go_simp; rfl))
    intro gb409 hg w13 hbox hb
    replace HO408 := rl HO408 hb
    have BK409 := Aside0.mk (hbox)
    have GW409 := gs hg
    have GE409 := gs hg
    replace HB := bs hb
    have ⟨NB402_409, NB409_402⟩ := nn BK402 hg
    replace BK402 := nk BK402 hb
    have ⟨NB403_409, NB409_403⟩ := nn BK403 hg
    replace BK403 := nk BK403 hb
    clear hb hbox hg
    refine hK.out _ _ ⟨ec BK402, ec BK402⟩ (fun hHeld => ?_)
    clear hK K
    refine nm (some 6) ?_
    exact norm_ (by simp only [putAll, Act.put, List.setIfInBounds_toArray, List.set_cons_zero, List.set_cons_succ]) (hCont (.slice Ao12 t406.length co12, gb409) _ ⟨hHeld, (pr HO408), (pk BK402), (pk BK403), (pk BK409), GW409.out, GE409.out, NB402_409.out, NB409_402.out, NB403_409.out, NB409_403.out, bw⟩)
   ·skip
    refine box_step ?hg (N := 6) ?hd (cs := #[.int .i64 0, .slice none 0 0]) (t := 28) ?hr ?_; (case hd => rfl); (case hg => rfl); (case hr => first | (go_simp; done) | (go_simp; rfl))
    intro gb409 hg w11 hbox hb
    have BK409 := Aside0.mk (hbox)
    have GW409 := gs hg
    have GE409 := gs hg
    replace HB := bs hb
    have ⟨NB402_409, NB409_402⟩ := nn BK402 hg
    replace BK402 := nk BK402 hb
    have ⟨NB403_409, NB409_403⟩ := nn BK403 hg
    replace BK403 := nk BK403 hb
    clear hb hbox hg
    refine hK.out _ _ ⟨ec BK402, ec BK402⟩ (fun hHeld => ?_)
    clear hK K
    refine nm (some 6) ?_
    refine one_ (i := 4) (N := some 21) (tb 8 95) rfl rfl (one_of HT_.out (by kernel_rfl)) (by decide) (fun K hK => ?_)
    refine go1 Tryz.func58 #[.slice A0_1 l0_1.length c0_1] ?_
    with_reducible refine (impl_Clue.calls _ _ l0_1 t406 _ ?side1 ?side2 A4.out).mono ?_
    (case side1 => exact cb HR0_1)
    (case side2 => exact HC0_1.out)
    rintro e w12 ⟨v407, rfl, ho0, hb⟩
    refine ⟨_, rfl, ?_⟩
    have HO408 := Aside0.mk (Kd.R_lower ho0 (below_size bw))
    replace BK402 := nk BK402 hb
    replace BK403 := nk BK403 hb
    replace BK409 := nk BK409 hb
    replace HB := bs hb
    (try clear hb)
    (try clear hb2)
    (try clear ho0)
    obtain ⟨Ao13, co13, eo13⟩ := Kd.R_slice HO408.out
    (first | subst eo13 | (injection eo13 with f1_ f2_ f3_; have f4_ := f1_.symm; have f5_ := f3_.symm; clear f1_ f2_ f3_; subst f4_; subst f5_))
    refine hK.out _ _ ⟨ec BK402, ec BK402⟩ (fun hHeld => ?_)
    clear hK K
    refine nm (some 21) ?_
    refine pu 5 (some 22) (tb 8 127) ?_
    exact norm_ (by simp only [putAll, Act.put, List.setIfInBounds_toArray, List.set_cons_zero, List.set_cons_succ]) (hCont (.slice Ao13 t406.length co13, gb409) _ ⟨hHeld, (pr HO408), (pk BK402), (pk BK403), (pk BK409), GW409.out, GE409.out, NB402_409.out, NB409_402.out, NB403_409.out, NB409_403.out, bw⟩)
  rintro ⟨v407, gb409⟩ w14 ⟨hS_, h0_, h1_, h2_, h3_, h4_, h5_, h6_, h7_, h8_, h9_, h10_⟩
  have n0_ : Aside0 (Kd.R k37 37 w14 w.heap.size (fun _ => True) v407 t406) := ⟨h0_⟩
  have n1_ : Aside0 (w14.heap[gb402]? = some (.cells #[.int .i64 a0_0, .slice A0_1 l0_1.length c0_1] 28 (0, 0))) := ⟨h1_⟩
  have n2_ : Aside0 (w14.heap[gb403]? = some (.cells #[.int .i64 0, .slice none 0 0] 28 (0, 0))) := ⟨h2_⟩
  have n3_ : Aside0 (w14.heap[gb409]? = some (.cells #[.int .i64 0, .slice none 0 0] 28 (0, 0))) := ⟨h3_⟩
  have n4_ : Aside0 (w.heap.size ≤ gb409) := ⟨h4_⟩
  have n5_ : Aside0 (w.heap.size ≤ gb409) := ⟨h5_⟩
  have n6_ : Aside0 (gb402 ≠ gb409) := ⟨h6_⟩
  have n7_ : Aside0 (gb409 ≠ gb402) := ⟨h7_⟩
  have n8_ : Aside0 (gb403 ≠ gb409) := ⟨h8_⟩
  have n9_ : Aside0 (gb409 ≠ gb403) := ⟨h9_⟩
  have n10_ : Aside0 (Below w.heap.size w w14) := ⟨h10_⟩
  clear BK402
  clear BK403
  clear HB
  clear h0_ h1_ h2_ h3_ h4_ h5_ h6_ h7_ h8_ h9_ h10_
  have HO408 := n0_
  have BK402 := n1_
  have BK403 := n2_
  have BK409 := n3_
  have GW409 := n4_
  have GE409 := n5_
  have NB402_409 := n6_
  have NB409_402 := n7_
  have NB403_409 := n8_
  have NB409_403 := n9_
  have HB := n10_
  clear n0_ n1_ n2_ n3_ n4_ n5_ n6_ n7_ n8_ n9_ n10_
  have hHeld : w14.cell? ⟨gb402, 0, none⟩ = some (.int .i64 a0_0) ∧ w14.cell? ⟨gb402, 1, none⟩ = some (.slice A0_1 l0_1.length c0_1) := hS_
  obtain ⟨Ao15, co15, eo15⟩ := Kd.R_slice HO408.out
  (first | subst eo15 | (injection eo15 with f1_ f2_ f3_; have f4_ := f1_.symm; have f5_ := f3_.symm; clear f1_ f2_ f3_; subst f4_; subst f5_))
  refine norm_ (a' := ?_) ?_ ?_
  rotate_left
  ·simp only [putAll, Act.put, List.setIfInBounds_toArray, List.set_cons_zero, List.set_cons_succ]
   rfl
  refine one_ (i := 7) (N := none) (tb 8 255) rfl rfl (one_of HT_.out (by kernel_rfl)) (by decide) (fun K hK => ?_)
  have hs16 : w14.cell? ⟨gb409, 0, none⟩ = some (.int .i64 0) := ec BK409
  have hfs16 := blk_frozen BK409.out 0
  have hns16_0 := NB402_409.out
  have hns16_1 := NB403_409.out
  have hms16_0 := NB409_402.out
  have hms16_1 := NB409_403.out
  have hs17 : w14.cell? ⟨gb409, 1, none⟩ = some (.slice none 0 0) := ec BK409
  have hfs17 := blk_frozen BK409.out 1
  have hns17_0 := NB402_409.out
  have hns17_1 := NB403_409.out
  have hms17_0 := NB409_402.out
  have hms17_1 := NB409_403.out
  refine skip_ (w1 := ?_) (by rfl) rfl ?_ ?_
  rotate_left
  ·go_simp
   rfl
  refine hK.out _ _ ⟨((cell_far (p := ⟨gb409, _, none⟩) NB402_409.out _).trans (((cell_far (p := ⟨gb409, _, none⟩) NB402_409.out _).trans (hHeld.1)))), ((cell_far (p := ⟨gb409, _, none⟩) NB402_409.out _).trans (((cell_far (p := ⟨gb409, _, none⟩) NB402_409.out _).trans (hHeld.2))))⟩ (fun hHeld => ?_)
  clear hK K
  refine done_ (done_of HT_.out (by kernel_rfl)) ?_
  try go_wp2
  go_loopg [7] k (fun kq v7 w' => ∃ (x7_1 : Int) (x410001_1 : List (S37)) (u410001 : Value), v7 = .int .i64 x7_1 ∧ Aside0 (impl_HarderPuzzle.l0 kq x7_1 a0_0 l0_1 a0_0 x410001_1 = some (r1, r2, r3)) ∧ Aside0 (kq ≤ k) ∧ Aside0 (Kd.R k37 37 w' w.heap.size (fun _ => True) u410001 x410001_1) ∧ Aside0 (w'.heap[gb402]? = some (.cells #[.int .i64 a0_0, (.slice A0_1 l0_1.length c0_1)] 28 (0, 0))) ∧ Aside0 (w'.heap[gb403]? = some (.cells #[.int .i64 0, (.slice none 0 0)] 28 (0, 0))) ∧ Aside0 (w'.heap[gb409]? = some (.cells #[.int .i64 a0_0, u410001] 28 (0, 0))) ∧ Aside0 (Below w.heap.size w w'))
  case atStart => exact ⟨(0), (t406), (.slice Ao15 t406.length co15), (rs), H', ⟨Nat.le_refl _⟩, ⟨by (with_reducible repeat (first | apply Kd.R_alloc | apply Kd.R_drewN | apply Kd.R_drew)); exact Kd.R_mono (Kd.R_far (p := ⟨gb409, 1, none⟩) (Kd.R_far (p := ⟨gb409, 0, none⟩) (Kd.R_types HO408.out BK409.out (by decide)) (fun _ hk => hk.2) (.int .i64 a0_0)) (fun _ hk => hk.2) (.slice Ao15 t406.length co15)) (fun _ hk => trivial)⟩, ⟨pf BK402⟩, ⟨pf BK403⟩, ⟨pz BK409⟩, ⟨bw⟩⟩
  case round =>
   clear H'
   try clear c1
   try clear p2
   try clear c3
   try clear c5
   try clear c7
   try clear c16
   try clear hcz8_0
   try clear hcz8_1
   try clear hfz8_0
   try clear hfz8_1
   obtain ⟨x7_1, x410001_1, u410001, rfl, HA, HK1, HO_410001, BK402, BK403, BK409, HB⟩ := hrel
   cases gk with
   | zero => exact absurd HA.out (by simp [impl_HarderPuzzle.l0])
   | succ k1 =>
    have H := HA.out
    clear HA
    simp only [impl_HarderPuzzle.l0] at H
    by_cases c18 : x7_1 < (x410001_1.length : Int)
    ·rw [if_pos c18] at H
     have c18b0 := decide_eq_true c18
     clear c18
     obtain ⟨t410, A19, H⟩ := ob H
     (try dsimp only at H)
     obtain ⟨t413, A20, H⟩ := ob H
     (try dsimp only at H)
     by_cases c21 : (t413.length : Int) = 1
     ·rw [if_pos c21] at H
      have c21b0 : ((t413.length : Int) == 1) = true := beq_iff_eq.mpr c21
      have c21b1 : ((t413.length : Int) != 1) = false := bne_eq_false_iff_eq.mpr c21
      clear c21
      have H' := Aside0.mk H
      clear H
      have hnb22 := nb NB409_402
      have hnb23 := nb NB409_403
      have hcz24_0 : wr.cell? ⟨gb409, 0, none⟩ = some (.int .i64 a0_0) := ec BK409
      have hcz24_1 : wr.cell? ⟨gb409, 1, none⟩ = some (u410001) := ec BK409
      have hfz24_0 := blk_frozen BK409.out 0
      have hfz24_1 := blk_frozen BK409.out 1
      obtain ⟨Ao25, co25, eo25⟩ := Kd.R_slice HO_410001.out
      subst eo25
      go_wp2_with (first | ((with_reducible refine gc 59 ?_); refine gl (some 31) Tryz.func59 #[.slice Ao25 x410001_1.length co25, .int .i64 x7_1] ?_; (with_reducible refine (impl_without.calls _ _ x410001_1 x7_1 t410 _ ?_ ?_ A19.out).mono ?_); exact rr HO_410001; exact rn HO_410001; rintro e w26 ⟨v411, rfl, ho0, hb⟩; refine ⟨_, rfl, ?_⟩; have HO412 := Aside0.mk (Kd.R_lower (Kd.R_new' ho0 (Kd.R_lt (pr HO_410001))) (below_size bw)); replace HO_410001 := re HO_410001 ho0 hb; replace BK402 := nk BK402 hb; replace BK403 := nk BK403 hb; replace BK409 := nk BK409 hb; replace HB := bs hb; (try clear hb); (try clear ho0); have hnb27 := nb NB402_403; have hz28 := z2 BK402; obtain ⟨Ao29, co29, eo29⟩ := Kd.R_slice HO412.out; subst eo29) | ((with_reducible refine gc 60 ?_); refine gl (some 35) Tryz.func60 #[.int .i64 a0_0, .slice Ao29 t410.length co29] ?_; (with_reducible refine (impl_solutions.calls k1 a0_0 _ _ t410 t413 _ ?_ ?_ ?_ A20.out).mono ?_); exact Dr.mm HMM; exact rr HO412; exact rn HO412; rintro e w30 ⟨v414, rfl, ho0, hb⟩; refine ⟨_, rfl, ?_⟩; replace HO_410001 := rl HO_410001 hb; replace HO412 := rl HO412 hb; have HO415 := Aside0.mk (Kd.R_lower ho0 (below_size bw)); replace BK402 := nk BK402 hb; replace BK403 := nk BK403 hb; replace BK409 := nk BK409 hb; replace HB := bs hb; (try clear hb); (try clear ho0); obtain ⟨Ao31, co31, eo31⟩ := Kd.R_slice HO415.out; subst eo31; have hz32 := z2 BK409))
      go_roundg k1
      case measure => have := HK1.out; omega
      case rel => exact ⟨(x7_1), (t410), (.slice Ao29 t410.length co29), (rs), H', ⟨by have := HK1.out; omega⟩, ⟨by (with_reducible repeat (first | apply Kd.R_alloc | apply Kd.R_drewN | apply Kd.R_drew)); exact Kd.R_mono (Kd.R_far (p := ⟨gb409, 1, none⟩) (Kd.R_types HO412.out BK409.out (by decide)) (fun _ hk => hk.2) (.slice Ao29 t410.length co29)) (fun _ hk => trivial)⟩, ⟨pf BK402⟩, ⟨pf BK403⟩, ⟨pz BK409⟩, ⟨bw⟩⟩
     rw [if_neg c21] at H
     have c21b0 : ((t413.length : Int) == 1) = false := beq_eq_false_iff_ne.mpr c21
     have c21b1 : ((t413.length : Int) != 1) = true := bne_iff_ne.mpr c21
     have H' := Aside0.mk H
     clear H
     have hnb33 := nb NB409_402
     have hnb34 := nb NB409_403
     have hcz35_0 : wr.cell? ⟨gb409, 0, none⟩ = some (.int .i64 a0_0) := ec BK409
     have hcz35_1 : wr.cell? ⟨gb409, 1, none⟩ = some (u410001) := ec BK409
     have hfz35_0 := blk_frozen BK409.out 0
     have hfz35_1 := blk_frozen BK409.out 1
     obtain ⟨Ao36, co36, eo36⟩ := Kd.R_slice HO_410001.out
     subst eo36
     go_wp2_with (first | ((with_reducible refine gc 59 ?_); refine gl (some 31) Tryz.func59 #[.slice Ao36 x410001_1.length co36, .int .i64 x7_1] ?_; (with_reducible refine (impl_without.calls _ _ x410001_1 x7_1 t410 _ ?_ ?_ A19.out).mono ?_); exact rr HO_410001; exact rn HO_410001; rintro e w37 ⟨v411, rfl, ho0, hb⟩; refine ⟨_, rfl, ?_⟩; have HO412 := Aside0.mk (Kd.R_lower (Kd.R_new' ho0 (Kd.R_lt (pr HO_410001))) (below_size bw)); replace HO_410001 := re HO_410001 ho0 hb; replace BK402 := nk BK402 hb; replace BK403 := nk BK403 hb; replace BK409 := nk BK409 hb; replace HB := bs hb; (try clear hb); (try clear ho0); have hnb38 := nb NB402_403; have hz39 := z2 BK402; obtain ⟨Ao40, co40, eo40⟩ := Kd.R_slice HO412.out; subst eo40) | ((with_reducible refine gc 60 ?_); refine gl (some 35) Tryz.func60 #[.int .i64 a0_0, .slice Ao40 t410.length co40] ?_; (with_reducible refine (impl_solutions.calls k1 a0_0 _ _ t410 t413 _ ?_ ?_ ?_ A20.out).mono ?_); exact Dr.mm HMM; exact rr HO412; exact rn HO412; rintro e w41 ⟨v414, rfl, ho0, hb⟩; refine ⟨_, rfl, ?_⟩; replace HO_410001 := rl HO_410001 hb; replace HO412 := rl HO412 hb; have HO415 := Aside0.mk (Kd.R_lower ho0 (below_size bw)); replace BK402 := nk BK402 hb; replace BK403 := nk BK403 hb; replace BK409 := nk BK409 hb; replace HB := bs hb; (try clear hb); (try clear ho0); obtain ⟨Ao42, co42, eo42⟩ := Kd.R_slice HO415.out; subst eo42))
     go_roundg k1
     case measure => have := HK1.out; omega
     case rel => exact ⟨(wrap64 (x7_1 + 1)), (x410001_1), (.slice Ao36 x410001_1.length co36), (rs), H', ⟨by have := HK1.out; omega⟩, ⟨by (with_reducible repeat (first | apply Kd.R_alloc | apply Kd.R_drewN | apply Kd.R_drew)); exact Kd.R_mono HO_410001.out (fun _ hk => trivial)⟩, ⟨pk BK402⟩, ⟨pk BK403⟩, ⟨pk BK409⟩, ⟨bw⟩⟩
    rw [if_neg c18] at H
    have c18b0 := decide_eq_false c18
    clear c18
    simp only [Option.some.injEq, Prod.mk.injEq] at H
    obtain ⟨rfl, rfl, rfl⟩ := H
    have hnb43 := nb NB409_402
    have hnb44 := nb NB409_403
    have hcz45_0 : wr.cell? ⟨gb409, 0, none⟩ = some (.int .i64 a0_0) := ec BK409
    have hcz45_1 : wr.cell? ⟨gb409, 1, none⟩ = some (u410001) := ec BK409
    have hfz45_0 := blk_frozen BK409.out 0
    have hfz45_1 := blk_frozen BK409.out 1
    obtain ⟨Ao46, co46, eo46⟩ := Kd.R_slice HO_410001.out
    subst eo46
    have hcz47_0 : wr.cell? ⟨gb403, 0, none⟩ = some (.int .i64 0) := ec BK403
    have hcz47_1 : wr.cell? ⟨gb403, 1, none⟩ = some (.slice none 0 0) := ec BK403
    have hfz47_0 := blk_frozen BK403.out 0
    have hfz47_1 := blk_frozen BK403.out 1
    go_wp2
    refine bodyPost_ret (results_ct rfl _ _ gb403 28 #[.int .i64 a0_0, .slice Ao46 x410001_1.length co46] (0, 0) _ rfl (pz BK403) Tryz.underlying28 rfl (by kernel_rfl)) rfl ?_
    exact ⟨_, rs, by (with_reducible repeat (first | apply Kd.R_alloc | apply Kd.R_drewN | apply Kd.R_drew)); exact Kd.R_mono (Kd.R_far (p := ⟨gb403, 1, none⟩) (Kd.R_far (p := ⟨gb403, 0, none⟩) (Kd.R_types HO_410001.out BK403.out (by decide)) (fun _ hk => hk.2) (.int .i64 a0_0)) (fun _ hk => hk.2) (.slice Ao46 x410001_1.length co46)) (fun _ hk => trivial), bw⟩
 replace c3 := Bool.eq_false_iff.mpr c3
 subst c3
 rw [if_neg (show ¬ (false = true) by decide)] at H
 simp only [Option.some.injEq, Prod.mk.injEq] at H
 obtain ⟨rfl, rfl, rfl⟩ := H
 refine Aside0.mk ?_
 try go_wp2_with (((with_reducible refine gc 18 ?_); refine gl (some 11) Tryz.func18 #[.agg #[.int .i64 a0_0, .slice A0_1 l0_1.length c0_1]] ?_; (with_reducible refine (impl_IsSolved.calls k a0_0 _ _ l0_1 false t405 _ ?_ ?_ ?_ A2.out).mono ?_); exact Dr.mm HMM; exact cb HR0_1; exact HC0_1.out; rintro e w52 ⟨rfl, hb⟩; refine ⟨_, rfl, ?_⟩; replace BK403 := nk BK403 hb; replace HB := bs hb; (try clear hb); have hz53 := z2 BK403))
 refine bodyPost_ret (results_ct rfl _ _ gb403 28 #[.int .i64 0, .slice none 0 0] (0, 0) _ rfl (pz BK403) Tryz.underlying28 rfl (by kernel_rfl)) rfl ?_
 exact ⟨_, rs, by first | exact Kd.R_nil _ _ _ _ _ | exact Kd.N_nil _ _ _ _ _ | exact Kd.V_nil _ _ _ _ _ | exact Kd.Q_nil _ _ _ _ _ | exact Kd.S_nil _ _ _ _ _, bw⟩

end Go.Proofs.YthjbmojacgkdcaaGreatDoor.PFnRowsHidden
