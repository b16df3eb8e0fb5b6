/- The law FnExactParseSignal, pure: what the printed functions answer, and that it is what the law asks. No condition. -/
import Derived.Test.YtilaakmggfjcbaaDoorStatFnExactParseSignal
import Derived.Test.YtilaakmggfjcbaaDoorPlBase
import Derived.Test.YtilaakmggfjcbaaDoorPlSig
import Derived.Test.YtilaakmggfjcbaaDoorPlList
import Derived.Test.YtilaakmggfjcbaaDoorPlBytes
import Derived.Test.YtilaakmggfjcbaaDoorPlTick
import Derived.Test.YtilaakmggfjcbaaDoorPlRow
import Derived.Test.YtilaakmggfjcbaaDoorPlNum
import Derived.Test.YtilaakmggfjcbaaDoorPlTail
import Derived.Test.YtilaakmggfjcbaaDoorPlCut
import Derived.Test.YtilaakmggfjcbaaDoorPlAny
namespace Go.Proofs.YtilaakmggfjcbaaDoor.Pure
open Go.RowKit Go.Proofs.YtilaakmggfjcbaaDoor.PFnExactParseSignal Go.Proofs.YtilaakmggfjcbaaDoorW.PrintWords Go.Proofs.YtilaakmggfjcbaaDoorW.PrintMore Go.Proofs.YtilaakmggfjcbaaDoor.Opn Go.Proofs.YtilaakmggfjcbaaDoor.Pl
set_option linter.unusedVariables false
set_option linter.unusedSimpArgs false
theorem in_eq (a b c : Int) : impl_in.f a b c = some (decide (b ≤ a ∧ a ≤ c)) := by
  unfold impl_in.f; by_cases h : b ≤ a <;> simp [h]
theorem l1In_eq (a b c : Int) : spec_l1In.f a b c = some (decide (b ≤ a ∧ a ≤ c)) := by
  unfold spec_l1In.f; by_cases h : b ≤ a <;> simp [h]
theorem siSoldiers_eq (a : Int) : spec_siSoldiers.f a = some (decide (1 ≤ a ∧ a ≤ 100)) := by
  unfold spec_siSoldiers.f; rw [l1In_eq]; rfl
theorem siSignal_eq (n f : Int) (l : Bool) (s : Int) : spec_siSignal.f n f l s = some (decide (sigOK n f s)) := by
  unfold spec_siSignal.f
  simp only [siSoldiers_eq, l1In_eq, Option.bind_some]
  by_cases h : 1 ≤ n ∧ n ≤ 100
  · rw [wrap64_id (x := n - 1) (by omega) (by omega)]
    by_cases h2 : 0 ≤ f ∧ f ≤ n - 1
    · unfold sigOK; simp [h, h2]
    · have k : ¬ sigOK n f s := fun q => h2 ⟨q.2.2.1, q.2.2.2.1⟩
      simp only [h, h2, k, decide_true, decide_false, if_true, Bool.false_eq_true, if_false]; simp
  · simp only [h, decide_false]
    have : ¬ sigOK n f s := fun k => h ⟨k.1, k.2.1⟩
    simp [this]
theorem isSignalRow_eq (a : Int) : impl_isSignalRow.f a = some (decide (1 ≤ a ∧ a ≤ 100)) := by
  unfold impl_isSignalRow.f; rw [in_eq]; rfl
theorem isSignal_eq (n f : Int) (l : Bool) (s : Int) : impl_isSignal.f n f l s = some (decide (sigOK n f s)) := by
  unfold impl_isSignal.f
  simp only [isSignalRow_eq, in_eq, Option.bind_some]
  by_cases h : 1 ≤ n ∧ n ≤ 100
  · rw [wrap64_id (x := n - 1) (by omega) (by omega)]
    by_cases h2 : 0 ≤ f ∧ f ≤ n - 1
    · unfold sigOK; simp [h, h2]
    · have k : ¬ sigOK n f s := fun q => h2 ⟨q.2.2.1, q.2.2.2.1⟩
      simp only [h, h2, k, decide_true, decide_false, if_true, Bool.false_eq_true, if_false]; simp
  · simp only [h, decide_false]
    have : ¬ sigOK n f s := fun k => h ⟨k.1, k.2.1⟩
    simp [this]
theorem l1Num_lo (n : Nat) (h : n < 10) : Ev (fun k => spec_l1Num.f k (n : Int)) (up (Go.Lib.decDigits n)) := by
  refine Ev.succ ?_
  simp only [spec_l1Num.f]
  refine Ev.pos (by omega) (Ev.const ?_)
  rw [dig n h, dec_lo n h]
theorem l1Num_ev (n : Nat) (h : n < 100) : Ev (fun k => spec_l1Num.f k (n : Int)) (up (Go.Lib.decDigits n)) := by
  by_cases h1 : n < 10
  · exact l1Num_lo n h1
  · refine Ev.succ ?_
    simp only [spec_l1Num.f, Option.bind_some]
    rw [tdiv_nn (by omega), tmod_nn (by omega), show (n : Int) / 10 = ((n / 10 : Nat) : Int) by omega, show (n : Int) % 10 = ((n % 10 : Nat) : Int) by omega, wrap64_id (x := ((n / 10 : Nat) : Int)) (by omega) (by omega), dig (n % 10) (by omega)]
    refine Ev.neg (by omega) (Ev.bind (l1Num_lo (n / 10) (by omega)) ?_)
    have hl := dec_len (n / 10) (by omega)
    refine Ev.pos (by rw [up_size, up_size, List.length_singleton]; omega) (Ev.const ?_)
    rw [up_app, dec_hi n h1]
theorem l1Num_int (n : Int) (h : 0 ≤ n ∧ n < 100) : Ev (fun k => spec_l1Num.f k n) (up (Go.Lib.decDigits n.toNat)) := by
  have := l1Num_ev n.toNat (by omega)
  rw [show ((n.toNat : Nat) : Int) = n by omega] at this
  exact this
theorem itoa_eq (n : Int) (h : 0 ≤ n ∧ n < 100) : strconv_Itoa.f n = some (up (Go.Lib.decDigits n.toNat)) := by
  unfold strconv_Itoa.f
  rw [if_pos h]
theorem l1Read_loop (p : ByteArray) : ∀ (d i : Nat) (acc : Int), i + d = p.size → i ≤ 10 → p.size ≤ 10 → ∃ v, Ev (fun k => spec_l1Read.l0 k p acc (i : Int)) v := by
  intro d
  induction d with
  | zero =>
    intro i acc hi h1 h2
    refine ⟨acc, Ev.succ ?_⟩
    simp only [spec_l1Read.l0]
    exact Ev.neg (by omega) (Ev.now _)
  | succ d ih =>
    intro i acc hi h1 h2
    by_cases c1 : bt p (i : Int) < 48
    · refine ⟨-1, Ev.succ ?_⟩
      simp only [spec_l1Read.l0]
      exact Ev.pos (by omega) (Ev.pos (by omega) (Ev.pos c1 (Ev.now _)))
    · by_cases c2 : bt p (i : Int) > 57
      · refine ⟨-1, Ev.succ ?_⟩
        simp only [spec_l1Read.l0]
        exact Ev.pos (by omega) (Ev.pos (by omega) (Ev.neg c1 (Ev.pos c2 (Ev.now _))))
      · obtain ⟨v, hv⟩ := ih (i + 1) (wrap64 ((wrap64 (10 * acc)) + (((bt p (i : Int)) - 48) % 256))) (by omega) (by omega) h2
        refine ⟨v, Ev.succ ?_⟩
        simp only [spec_l1Read.l0]
        rw [show (i : Int) + 1 = ((i + 1 : Nat) : Int) by omega, wrap64_id (x := ((i + 1 : Nat) : Int)) (by omega) (by omega)]
        exact Ev.pos (by omega) (Ev.pos (by omega) (Ev.neg c1 (Ev.neg c2 hv)))
theorem l1Read_total (p : ByteArray) : ∃ v, Ev (fun k => spec_l1Read.f k p) v := by
  have hT : Ev (fun k => spec_l1Read.j0 k p true) (-1) := Ev.succ (by simp only [spec_l1Read.j0]; exact Ev.pos trivial (Ev.now _))
  unfold spec_l1Read.f
  simp only [l1In_eq, Option.bind_some]
  by_cases h : 1 ≤ (p.size : Int) ∧ (p.size : Int) ≤ 6
  · obtain ⟨v, hv⟩ := l1Read_loop p p.size 0 0 (by omega) (by omega) (by omega)
    have hF : Ev (fun k => spec_l1Read.j0 k p false) v := Ev.succ (by simp only [spec_l1Read.j0]; exact Ev.neg (by decide) hv)
    have hB : ∀ b, ∃ u, Ev (fun k => spec_l1Read.j0 k p b) u := fun b => by cases b; exact ⟨v, hF⟩; exact ⟨-1, hT⟩
    obtain ⟨u, hu⟩ := hB (decide ((p.size : Int) > 1))
    by_cases h0 : bt p 0 = 48
    · exact ⟨u, Ev.pos (by simpa using h) (Ev.pos (by omega) (Ev.pos h0 hu))⟩
    · exact ⟨v, Ev.pos (by simpa using h) (Ev.pos (by omega) (Ev.neg h0 hF))⟩
  · exact ⟨-1, Ev.neg (by simpa using h) hT⟩
theorem l1Read_step (s : List UInt8) (i d : Nat) (hi : i < s.length) (hs : s.length ≤ 10) (hd : d < 10) (hx : s[i] = UInt8.ofNat (48 + d)) (acc : Int) (ha : 0 ≤ acc ∧ acc < 1000) (R : Int)
    (h : Ev (fun k => spec_l1Read.l0 k (up s) (10 * acc + (d : Int)) ((i + 1 : Nat) : Int)) R) : Ev (fun k => spec_l1Read.l0 k (up s) acc (i : Int)) R := by
  have hz := up_isize s
  have hb : bt (up s) (i : Int) = 48 + (d : Int) := by
    rw [bt_nat (up s) i (by rw [L_mk]; exact hi)]
    have e : (L (up s))[i]'(by rw [L_mk]; exact hi) = s[i] := by simp [L]
    rw [e, hx, dg_nat d hd]; omega
  refine Ev.succ ?_
  simp only [spec_l1Read.l0]
  rw [hb, show (i : Int) + 1 = ((i + 1 : Nat) : Int) by omega, wrap64_id (x := ((i + 1 : Nat) : Int)) (by omega) (by omega), wrap64_id (x := 10 * acc) (by omega) (by omega), show (48 + (d : Int) - 48) % 256 = (d : Int) by omega, wrap64_id (x := 10 * acc + (d : Int)) (by omega) (by omega)]
  exact Ev.pos (by omega) (Ev.pos (by omega) (Ev.neg (by omega) (Ev.neg (by omega) h)))
theorem l1Read_end (s : List UInt8) (v : Int) : Ev (fun k => spec_l1Read.l0 k (up s) v (s.length : Int)) v := by
  have hz := up_isize s
  refine Ev.succ ?_
  simp only [spec_l1Read.l0]
  exact Ev.neg (by omega) (Ev.now _)
theorem l1Read_dd (a : Int) (h : 0 ≤ a ∧ a < 100) : Ev (fun k => spec_l1Read.f k (up (dd a))) a := by
  unfold spec_l1Read.f
  simp only [l1In_eq, Option.bind_some]
  rcases dd_cases a h with ⟨d, hd, e0, e⟩ | ⟨x, d, hx0, hx, hd, e0, e⟩
  · rw [e]
    have hz := up_isize [UInt8.ofNat (48 + d)]
    simp only [List.length_cons, List.length_nil] at hz
    have hF : Ev (fun k => spec_l1Read.j0 k (up [UInt8.ofNat (48 + d)]) false) a := by
      refine Ev.succ ?_
      simp only [spec_l1Read.j0]
      refine Ev.neg (by decide) (l1Read_step _ 0 d (by simp) (by simp) hd rfl 0 (by omega) a ?_)
      have := l1Read_end [UInt8.ofNat (48 + d)] a
      rw [show 10 * (0 : Int) + (d : Int) = a by omega]
      exact this
    refine Ev.pos (decide_eq_true (by omega)) (Ev.pos (by omega) (Ev.iff (fun _ => ?_) (fun _ => hF)))
    rw [show decide (((up [UInt8.ofNat (48 + d)]).size : Int) > 1) = false from decide_eq_false (by omega)]
    exact hF
  · rw [e]
    have hz := up_isize [UInt8.ofNat (48 + x), UInt8.ofNat (48 + d)]
    simp only [List.length_cons, List.length_nil] at hz
    have hb : ¬ bt (up [UInt8.ofNat (48 + x), UInt8.ofNat (48 + d)]) 0 = 48 := by
      have h1 := bt_nat (up [UInt8.ofNat (48 + x), UInt8.ofNat (48 + d)]) 0 (by rw [L_mk]; simp)
      have e1 : (L (up [UInt8.ofNat (48 + x), UInt8.ofNat (48 + d)]))[0]'(by rw [L_mk]; simp) = UInt8.ofNat (48 + x) := by simp [L]
      rw [e1, dg_nat x hx] at h1
      have h2 : bt (up [UInt8.ofNat (48 + x), UInt8.ofNat (48 + d)]) 0 = ((48 + x : Nat) : Int) := h1
      omega
    refine Ev.pos (decide_eq_true (by omega)) (Ev.pos (by omega) (Ev.neg hb (Ev.succ ?_)))
    simp only [spec_l1Read.j0]
    refine Ev.neg (by decide) (l1Read_step _ 0 x (by simp) (by simp) hx rfl 0 (by omega) a (l1Read_step _ 1 d (by simp) (by simp) hd rfl _ (by omega) a ?_))
    have := l1Read_end [UInt8.ofNat (48 + x), UInt8.ofNat (48 + d)] a
    rw [show 10 * (10 * (0 : Int) + (x : Int)) + (d : Int) = a by omega]
    exact this
noncomputable def l1R (p : List UInt8) : Int := Classical.choose (l1Read_total (up p))
theorem l1R_ev (p : List UInt8) : Ev (fun k => spec_l1Read.f k (up p)) (l1R p) := Classical.choose_spec (l1Read_total (up p))
theorem l1R_dd (a : Int) (h : 0 ≤ a ∧ a < 100) : l1R (dd a) = a := Ev.uniq (l1R_ev (dd a)) (l1Read_dd a h)
theorem atoi_ok {w : List UInt8} {v : Int} (hw : w.length ≤ 281474976710656) (h : Go.Lib.atoiAll w = .ok v) : strconv_Atoi.f (up w) = some (v, none) := by
  unfold strconv_Atoi.f
  rw [if_pos (by rw [up_size]; exact hw)]
  have e : (up w).data.toList = w := L_mk w
  rw [e, h]
theorem atoi_bad {w : List UInt8} (hw : w.length ≤ 281474976710656) (h : ∀ v, Go.Lib.atoiAll w ≠ .ok v) : ∃ x q, strconv_Atoi.f (up w) = some (x, some q) := by
  unfold strconv_Atoi.f
  rw [if_pos (by rw [up_size]; exact hw)]
  have e : (up w).data.toList = w := L_mk w
  rw [e]
  cases h0 : Go.Lib.atoiAll w
  · rename_i v; exact absurd h0 (h v)
  · exact ⟨_, _, rfl⟩
  · exact ⟨_, _, rfl⟩
theorem spSi_ev (f : Int) (l : Bool) (s : Int) (h : sigOK 100 f s) : Ev (fun k => spec_siText.f k f l s) (up (sgx f l s)) := by
  have h2 := h
  unfold sigOK at h2
  have hf := dd_len f (by omega)
  have hs := dd_len s (by omega)
  unfold spec_siText.f sgx
  refine Ev.iff (fun hl => ?_) (fun hl => ?_)
  · have e1 : up (dd f) ++ (⟨#[60]⟩ : ByteArray) = up (dd f ++ [60]) := up_app _ [60]
    refine Ev.bind (l1Num_int f (by omega)) (Ev.pos (by rw [up_size]; unfold dd at hf; omega) (Ev.bind (l1Num_int s (by omega)) ?_))
    show Ev (fun k => if (up (dd f) ++ (⟨#[60]⟩ : ByteArray)).size + (up (dd s)).size ≤ 9223372036854775807 then some ((up (dd f) ++ (⟨#[60]⟩ : ByteArray)) ++ up (dd s)) else none) _
    rw [e1]
    refine Ev.pos (by rw [up_size, up_size, List.length_append, List.length_singleton]; omega) (Ev.const ?_)
    rw [up_app, if_pos hl]; simp
  · have e1 : up (dd f) ++ (⟨#[62]⟩ : ByteArray) = up (dd f ++ [62]) := up_app _ [62]
    refine Ev.bind (l1Num_int f (by omega)) (Ev.pos (by rw [up_size]; unfold dd at hf; omega) (Ev.bind (l1Num_int s (by omega)) ?_))
    show Ev (fun k => if (up (dd f) ++ (⟨#[62]⟩ : ByteArray)).size + (up (dd s)).size ≤ 9223372036854775807 then some ((up (dd f) ++ (⟨#[62]⟩ : ByteArray)) ++ up (dd s)) else none) _
    rw [e1]
    refine Ev.pos (by rw [up_size, up_size, List.length_append, List.length_singleton]; omega) (Ev.const ?_)
    rw [up_app, if_neg hl]; simp
theorem imSi_eq (f : Int) (l : Bool) (s : Int) (h : sigOK 100 f s) : impl_signalText.f f l s = some (up (sgx f l s)) := by
  have h2 := h
  unfold sigOK at h2
  have hf := dd_len f (by omega)
  have hs := dd_len s (by omega)
  have e1 : up (dd f) ++ (⟨#[60]⟩ : ByteArray) = up (dd f ++ [60]) := up_app _ [60]
  have e2 : up (dd f) ++ (⟨#[62]⟩ : ByteArray) = up (dd f ++ [62]) := up_app _ [62]
  have i1 : strconv_Itoa.f f = some (up (dd f)) := itoa_eq f (by omega)
  have i2 : strconv_Itoa.f s = some (up (dd s)) := itoa_eq s (by omega)
  unfold impl_signalText.f sgx
  rw [i1, i2]
  simp only [Option.bind_some]
  rw [e1, e2]
  by_cases hl : l = true
  · rw [if_pos hl, if_pos (by rw [up_size]; omega), if_pos (by rw [up_size, up_size, List.length_append, List.length_singleton]; omega), if_pos hl, up_app]
    simp
  · rw [if_neg hl, if_pos (by rw [up_size]; omega), if_pos (by rw [up_size, up_size, List.length_append, List.length_singleton]; omega), if_neg hl, up_app]
    simp
abbrev sbad : Int × Bool × Int × Bool := (0, false, 0, false)
def sok (s : List UInt8) (R : Int × Bool × Int × Bool) : Prop := R = sbad ∨ ∃ f l x, sigOK 100 f x ∧ s = sgx f l x ∧ R = (f, l, x, true)
theorem any_eq (w : List UInt8) (hw : w.length ≤ 1048576) : strings_IndexAny.f (up w) (⟨#[60, 62]⟩ : ByteArray) = some (Go.Lib.indexAny w [60, 62]) := by
  unfold strings_IndexAny.f
  have e : (up w).data.toList = w := L_mk w
  rw [if_pos ⟨by rw [up_size]; omega, rfl⟩, e]
theorem atoi_tot (w : List UInt8) (hw : w.length ≤ 281474976710656) : ∃ x e, strconv_Atoi.f (up w) = some (x, e) := by
  by_cases h : ∃ v, Go.Lib.atoiAll w = .ok v
  · obtain ⟨v, h⟩ := h
    exact ⟨v, none, atoi_ok hw h⟩
  · obtain ⟨x, q, h2⟩ := atoi_bad hw (fun v h3 => h ⟨v, h3⟩)
    exact ⟨x, some q, h2⟩
theorem imS (w : List UInt8) (hw : w.length ≤ 1048576) : ∃ R, impl_ParseSignal.f (up w) = some R ∧ sok w R := by
  have hz := up_isize w
  unfold impl_ParseSignal.f
  rw [any_eq w hw]
  simp only [Option.bind_some]
  have hlt := indexAny_lt [60, 62] w
  generalize Go.Lib.indexAny w [60, 62] = k at hlt
  by_cases hk : k < 0
  · rw [if_pos hk]; exact ⟨sbad, rfl, .inl rfl⟩
  · obtain ⟨n, rfl⟩ : ∃ n : Nat, k = n := ⟨k.toNat, by omega⟩
    have e1 : (n : Int) + 1 = ((n + 1 : Nat) : Int) := by omega
    rw [if_neg hk, if_pos (by omega), if_pos (by omega), e1, wrap64_id (x := ((n + 1 : Nat) : Int)) (by omega) (by omega), Int.toNat_natCast, Int.toNat_natCast, up_take, up_drop]
    obtain ⟨x1, q1, h1⟩ := atoi_tot (w.take n) (by simp; omega)
    obtain ⟨x2, q2, h2⟩ := atoi_tot (w.drop (n + 1)) (by simp; omega)
    rw [h1, h2]
    simp only [Option.bind_some]
    rw [if_pos (by omega), if_pos (by omega), if_pos (by omega)]
    simp only [isSignal_eq, Option.bind_some]
    generalize (bt (up w) (n : Int) == 60) = l
    by_cases c1 : q1.isNone = true
    · rw [if_pos c1]
      by_cases c2 : q2.isNone = true
      · rw [if_pos c2]
        by_cases c3 : sigOK 100 x1 x2
        · rw [if_pos (by simpa using c3), imSi_eq x1 l x2 c3]
          simp only [Option.bind_some]
          rw [toList_L, toList_L, L_mk, L_mk]
          by_cases c4 : sgx x1 l x2 = w
          · rw [if_pos c4]; exact ⟨_, rfl, .inr ⟨x1, l, x2, c3, c4.symm, rfl⟩⟩
          · rw [if_neg c4]; exact ⟨_, rfl, .inl rfl⟩
        · rw [if_neg (by simpa using c3)]; exact ⟨_, rfl, .inl rfl⟩
      · rw [if_neg c2]; exact ⟨_, rfl, .inl rfl⟩
    · rw [if_neg c1]; exact ⟨_, rfl, .inl rfl⟩
theorem bool60 (l : Bool) : ((if l = true then (60 : Int) else 62) == 60) = l := by cases l <;> rfl
theorem imG (f : Int) (l : Bool) (x : Int) (h : sigOK 100 f x) : impl_ParseSignal.f (up (sgx f l x)) = some (f, l, x, true) := by
  have h2 := h
  unfold sigOK at h2
  obtain ⟨hl, hl1, hl2⟩ := sgx_len f l x (by omega) (by omega)
  have hz := up_isize (sgx f l x)
  have e1 : ((dd f).length : Int) + 1 = (((dd f).length + 1 : Nat) : Int) := by omega
  have a1 : strconv_Atoi.f (up (dd f)) = some (f, none) := atoi_ok (by omega) (atoi_dd f (by omega))
  have a2 : strconv_Atoi.f (up (dd x)) = some (x, none) := atoi_ok (by omega) (atoi_dd x (by omega))
  unfold impl_ParseSignal.f
  rw [any_eq _ (by omega), sgx_any f l x (by omega)]
  simp only [Option.bind_some]
  rw [if_neg (by omega), if_pos (by omega), if_pos (by omega), e1, wrap64_id (x := (((dd f).length + 1 : Nat) : Int)) (by omega) (by omega), Int.toNat_natCast, Int.toNat_natCast, up_take, up_drop, sgx_take, sgx_drop, a1, a2]
  simp only [Option.bind_some]
  rw [if_pos (by omega), if_pos (by omega), if_pos (by omega), sgx_bt, bool60]
  simp only [isSignal_eq, Option.bind_some]
  rw [if_pos (show (none : Option Int).isNone = true from rfl), if_pos (show (none : Option Int).isNone = true from rfl), if_pos (by simpa using h), imSi_eq f l x h]
  simp only [Option.bind_some]
  first | rw [if_pos rfl] | rw [if_pos trivial]
theorem spStep (w : List UInt8) (hw : w.length ≤ 6) (i : Nat) (hi : i < w.length) (R : Int × Bool × Int × Bool) (hR : Ev (fun k => spec_ParseSignal.l0 k (up w) ((i + 1 : Nat) : Int)) R) (hok : sok w R) : ∃ R', Ev (fun k => spec_ParseSignal.l0 k (up w) (i : Int)) R' ∧ sok w R' := by
  have hz := up_isize w
  have e1 : (i : Int) + 1 = ((i + 1 : Nat) : Int) := by omega
  have hskip : Ev (fun k => spec_ParseSignal.j1 k (up w) (i : Int) true) R := by
    refine Ev.succ ?_
    simp only [spec_ParseSignal.j1]
    rw [e1, wrap64_id (x := ((i + 1 : Nat) : Int)) (by omega) (by omega)]
    exact Ev.pos trivial hR
  have htry : ∃ R', Ev (fun k => spec_ParseSignal.j1 k (up w) (i : Int) false) R' ∧ sok w R' := by
    have key : ∀ l : Bool, ∃ R', Ev (fun k => (spec_siSignal.f 100 (l1R (w.take i)) l (l1R (w.drop (i + 1)))).bind fun t123 => (if t123 = true then ((spec_siText.f k (l1R (w.take i)) l (l1R (w.drop (i + 1)))).bind fun t124 => (if t124.toList = (up w).toList then (some (l1R (w.take i), l, l1R (w.drop (i + 1)), true)) else (spec_ParseSignal.l0 k (up w) ((i + 1 : Nat) : Int)))) else (spec_ParseSignal.l0 k (up w) ((i + 1 : Nat) : Int)))) R' ∧ sok w R' := by
      intro l
      simp only [siSignal_eq, Option.bind_some]
      by_cases c3 : sigOK 100 (l1R (w.take i)) (l1R (w.drop (i + 1)))
      · by_cases c4 : sgx (l1R (w.take i)) l (l1R (w.drop (i + 1))) = w
        · refine ⟨_, Ev.pos (by simpa using c3) (Ev.bind (spSi_ev _ l _ c3) (Ev.pos ?_ (Ev.now _))), .inr ⟨_, _, _, c3, c4.symm, rfl⟩⟩
          rw [c4]
        · refine ⟨R, Ev.pos (by simpa using c3) (Ev.bind (spSi_ev _ l _ c3) (Ev.neg ?_ hR)), hok⟩
          rw [toList_L, toList_L, L_mk, L_mk]; exact c4
      · exact ⟨R, Ev.neg (by simpa using c3) hR, hok⟩
    obtain ⟨R', k1, k2⟩ := key (bt (up w) (i : Int) == 60)
    refine ⟨R', Ev.succ ?_, k2⟩
    simp only [spec_ParseSignal.j1]
    rw [e1, wrap64_id (x := ((i + 1 : Nat) : Int)) (by omega) (by omega), Int.toNat_natCast, Int.toNat_natCast, up_take, up_drop]
    exact Ev.neg (by decide) (Ev.pos (by omega) (Ev.pos (by omega) (Ev.bind (l1R_ev _) (Ev.pos (by omega) (Ev.pos (by omega) (Ev.pos (by omega) (Ev.bind (l1R_ev _) k1)))))))
  obtain ⟨R', k1, k2⟩ := htry
  by_cases c1 : bt (up w) (i : Int) = 60
  · refine ⟨R', Ev.succ ?_, k2⟩
    simp only [spec_ParseSignal.l0]
    exact Ev.pos (by omega) (Ev.pos (by omega) (Ev.pos c1 k1))
  · by_cases c2 : bt (up w) (i : Int) = 62
    · refine ⟨R', Ev.succ ?_, k2⟩
      simp only [spec_ParseSignal.l0]
      rw [show (bt (up w) (i : Int) != 62) = false by simpa using c2]
      exact Ev.pos (by omega) (Ev.pos (by omega) (Ev.neg c1 k1))
    · refine ⟨R, Ev.succ ?_, hok⟩
      simp only [spec_ParseSignal.l0]
      rw [show (bt (up w) (i : Int) != 62) = true by simpa using c2]
      exact Ev.pos (by omega) (Ev.pos (by omega) (Ev.neg c1 hskip))
theorem spS_loop (w : List UInt8) (hw : w.length ≤ 6) : ∀ (d i : Nat), i + d = w.length → ∃ R, Ev (fun k => spec_ParseSignal.l0 k (up w) (i : Int)) R ∧ sok w R := by
  have hz := up_isize w
  intro d
  induction d with
  | zero =>
    intro i hi
    refine ⟨sbad, Ev.succ ?_, .inl rfl⟩
    simp only [spec_ParseSignal.l0]
    exact Ev.neg (by omega) (Ev.now _)
  | succ d ih =>
    intro i hi
    obtain ⟨R, h1, h2⟩ := ih (i + 1) (by omega)
    exact spStep w hw i (by omega) R h1 h2
theorem spS (w : List UInt8) : ∃ R, Ev (fun k => spec_ParseSignal.f k (up w)) R ∧ sok w R := by
  have hz := up_isize w
  unfold spec_ParseSignal.f
  by_cases h : w.length ≤ 6
  · obtain ⟨R, h1, h2⟩ := spS_loop w h w.length 0 (by omega)
    exact ⟨R, Ev.neg (by omega) h1, h2⟩
  · exact ⟨sbad, Ev.pos (by omega) (Ev.now _), .inl rfl⟩
theorem spG_skip (w : List UInt8) (hw : w.length ≤ 6) (n : Nat) (hn : n < w.length) (hs : ∀ i (h : i < n), w[i]'(by omega) ≠ 60 ∧ w[i]'(by omega) ≠ 62) (R : Int × Bool × Int × Bool) (hR : Ev (fun k => spec_ParseSignal.l0 k (up w) (n : Int)) R) : ∀ (d i : Nat), i + d = n → Ev (fun k => spec_ParseSignal.l0 k (up w) (i : Int)) R := by
  have hz := up_isize w
  intro d
  induction d with
  | zero => intro i hi; obtain rfl : i = n := by omega
            exact hR
  | succ d ih =>
    intro i hi
    have h1 := ih (i + 1) (by omega)
    obtain ⟨n1, n2⟩ := hs i (by omega)
    have c1 : ¬ bt (up w) (i : Int) = 60 := fun e => n1 ((up_bt w i (by omega) 60).1 e)
    have c2 : ¬ bt (up w) (i : Int) = 62 := fun e => n2 ((up_bt w i (by omega) 62).1 e)
    refine Ev.succ ?_
    simp only [spec_ParseSignal.l0]
    rw [show (bt (up w) (i : Int) != 62) = true by simpa using c2]
    refine Ev.pos (by omega) (Ev.pos (by omega) (Ev.neg c1 (Ev.succ ?_)))
    simp only [spec_ParseSignal.j1]
    rw [show (i : Int) + 1 = ((i + 1 : Nat) : Int) by omega, wrap64_id (x := ((i + 1 : Nat) : Int)) (by omega) (by omega)]
    exact Ev.pos trivial h1
theorem spG (f : Int) (l : Bool) (x : Int) (h : sigOK 100 f x) : Ev (fun k => spec_ParseSignal.f k (up (sgx f l x))) (f, l, x, true) := by
  have h2 := h
  unfold sigOK at h2
  obtain ⟨hl, hl1, hl2⟩ := sgx_len f l x (by omega) (by omega)
  have hz := up_isize (sgx f l x)
  have e1 : ((dd f).length : Int) + 1 = (((dd f).length + 1 : Nat) : Int) := by omega
  have hj : Ev (fun k => spec_ParseSignal.j1 k (up (sgx f l x)) ((dd f).length : Int) false) (f, l, x, true) := by
    refine Ev.succ ?_
    simp only [spec_ParseSignal.j1]
    rw [e1, wrap64_id (x := (((dd f).length + 1 : Nat) : Int)) (by omega) (by omega), Int.toNat_natCast, Int.toNat_natCast, up_take, up_drop, sgx_take, sgx_drop, sgx_bt, bool60]
    refine Ev.neg (by decide) (Ev.pos (by omega) (Ev.pos (by omega) (Ev.bind (l1Read_dd f (by omega)) (Ev.pos (by omega) (Ev.pos (by omega) (Ev.pos (by omega) (Ev.bind (l1Read_dd x (by omega)) ?_)))))))
    simp only [siSignal_eq, Option.bind_some]
    exact Ev.pos (by simpa using h) (Ev.bind (spSi_ev f l x h) (Ev.pos rfl (Ev.now _)))
  have h0 : Ev (fun k => spec_ParseSignal.l0 k (up (sgx f l x)) ((dd f).length : Int)) (f, l, x, true) := by
    refine Ev.succ ?_
    simp only [spec_ParseSignal.l0]
    rw [sgx_bt]
    refine Ev.pos (by omega) (Ev.pos (by omega) ?_)
    cases l
    · exact Ev.neg (by decide) hj
    · exact Ev.pos (by decide) hj
  unfold spec_ParseSignal.f
  refine Ev.neg (by omega) (spG_skip _ (by omega) (dd f).length (by omega) (fun i hi => ?_) _ h0 (dd f).length 0 (by omega))
  have e : (sgx f l x)[i]'(by omega) = (dd f)[i] := by unfold sgx; rw [List.getElem_append_left hi]
  have hm : (dd f)[i] ∈ dd f := List.getElem_mem hi
  rw [e]
  exact ⟨fun e => dd_mem f (by omega) 60 (by decide) (e ▸ hm), fun e => dd_mem f (by omega) 62 (by decide) (e ▸ hm)⟩
theorem par_both (w : List UInt8) (hw : w.length ≤ 1048576) : ∃ R, impl_ParseSignal.f (up w) = some R ∧ Ev (fun k => spec_ParseSignal.f k (up w)) R ∧ sok w R := by
  obtain ⟨R, h1, h2⟩ := imS w hw
  obtain ⟨R', h3, h4⟩ := spS w
  rcases h2 with h2 | ⟨f, l, x, c, rfl, rfl⟩
  · rcases h4 with h4 | ⟨f, l, x, c, rfl, rfl⟩
    · subst h2; subst h4; exact ⟨_, h1, h3, .inl rfl⟩
    · rw [imG f l x c] at h1
      rw [h2] at h1
      cases h1
  · exact ⟨_, h1, spG f l x c, .inr ⟨f, l, x, c, rfl, rfl⟩⟩
theorem FnExactParseSignal : StatFnExactParseSignal := by
  intro a0 hs
  refine Ev.get ?_
  unfold laws_FnExactParseSignal.f
  have e0 : a0 = up (L a0) := up_L a0
  have hsz := isize_L a0
  refine Ev.iff (fun _ => Ev.now _) (fun h => ?_)
  obtain ⟨R, im, sp, _⟩ := par_both (L a0) (by omega)
  rw [← e0] at sp im
  obtain ⟨f, l, x, b⟩ := R
  refine Ev.bind sp ?_
  rw [im]
  simp only [Option.bind_some]
  have e : laws_eqSignal.f f l x f l x = some true := by unfold laws_eqSignal.f; simp
  rw [e]
  simp only [Option.bind_some]
  exact Ev.pos (by first | rfl | trivial) (Ev.neg (by simp) (Ev.now _))

end Go.Proofs.YtilaakmggfjcbaaDoor.Pure
