/- The law FnExactSignalText, pure: what the printed functions answer, and that it is what the law asks. No condition. -/
import Derived.Test.YtonnpncccjpmaaaDoorStatFnExactSignalText
import Derived.Test.YtonnpncccjpmaaaDoorPlBase
import Derived.Test.YtonnpncccjpmaaaDoorPlSig
import Derived.Test.YtonnpncccjpmaaaDoorPlList
import Derived.Test.YtonnpncccjpmaaaDoorPlBytes
import Derived.Test.YtonnpncccjpmaaaDoorPlTick
import Derived.Test.YtonnpncccjpmaaaDoorPlRow
import Derived.Test.YtonnpncccjpmaaaDoorPlNum
namespace Go.Proofs.YtonnpncccjpmaaaDoor.Pure
open Go.RowKit Go.Proofs.YtonnpncccjpmaaaDoor.PFnExactSignalText Go.Proofs.YtonnpncccjpmaaaDoorW.PrintWords Go.Proofs.YtonnpncccjpmaaaDoorW.PrintMore Go.Proofs.YtonnpncccjpmaaaDoor.Opn Go.Proofs.YtonnpncccjpmaaaDoor.Pl
set_option linter.unusedVariables false
set_option linter.unusedSimpArgs false
theorem in_eq (a b c : Int) : impl_in.f a b c = some (decide (b ≤ a ∧ a ≤ c)) := by
  unfold impl_in.f; by_cases h : b ≤ a <;> simp [h]
theorem l1In_eq (a b c : Int) : spec_l1In.f a b c = some (decide (b ≤ a ∧ a ≤ c)) := by
  unfold spec_l1In.f; by_cases h : b ≤ a <;> simp [h]
theorem siSoldiers_eq (a : Int) : spec_siSoldiers.f a = some (decide (1 ≤ a ∧ a ≤ 100)) := by
  unfold spec_siSoldiers.f; rw [l1In_eq]; rfl
theorem siSignal_eq (n f : Int) (l : Bool) (s : Int) : spec_siSignal.f n f l s = some (decide (sigOK n f s)) := by
  unfold spec_siSignal.f
  simp only [siSoldiers_eq, l1In_eq, Option.bind_some]
  by_cases h : 1 ≤ n ∧ n ≤ 100
  · rw [wrap64_id (x := n - 1) (by omega) (by omega)]
    by_cases h2 : 0 ≤ f ∧ f ≤ n - 1
    · unfold sigOK; simp [h, h2]
    · have k : ¬ sigOK n f s := fun q => h2 ⟨q.2.2.1, q.2.2.2.1⟩
      simp only [h, h2, k, decide_true, decide_false, if_true, Bool.false_eq_true, if_false]; simp
  · simp only [h, decide_false]
    have : ¬ sigOK n f s := fun k => h ⟨k.1, k.2.1⟩
    simp [this]
theorem isSignalRow_eq (a : Int) : impl_isSignalRow.f a = some (decide (1 ≤ a ∧ a ≤ 100)) := by
  unfold impl_isSignalRow.f; rw [in_eq]; rfl
theorem isSignal_eq (n f : Int) (l : Bool) (s : Int) : impl_isSignal.f n f l s = some (decide (sigOK n f s)) := by
  unfold impl_isSignal.f
  simp only [isSignalRow_eq, in_eq, Option.bind_some]
  by_cases h : 1 ≤ n ∧ n ≤ 100
  · rw [wrap64_id (x := n - 1) (by omega) (by omega)]
    by_cases h2 : 0 ≤ f ∧ f ≤ n - 1
    · unfold sigOK; simp [h, h2]
    · have k : ¬ sigOK n f s := fun q => h2 ⟨q.2.2.1, q.2.2.2.1⟩
      simp only [h, h2, k, decide_true, decide_false, if_true, Bool.false_eq_true, if_false]; simp
  · simp only [h, decide_false]
    have : ¬ sigOK n f s := fun k => h ⟨k.1, k.2.1⟩
    simp [this]
theorem l1Num_lo (n : Nat) (h : n < 10) : Ev (fun k => spec_l1Num.f k (n : Int)) (up (Go.Lib.decDigits n)) := by
  refine Ev.succ ?_
  simp only [spec_l1Num.f]
  refine Ev.pos (by omega) (Ev.const ?_)
  rw [dig n h, dec_lo n h]
theorem l1Num_ev (n : Nat) (h : n < 100) : Ev (fun k => spec_l1Num.f k (n : Int)) (up (Go.Lib.decDigits n)) := by
  by_cases h1 : n < 10
  · exact l1Num_lo n h1
  · refine Ev.succ ?_
    simp only [spec_l1Num.f, Option.bind_some]
    rw [tdiv_nn (by omega), tmod_nn (by omega), show (n : Int) / 10 = ((n / 10 : Nat) : Int) by omega, show (n : Int) % 10 = ((n % 10 : Nat) : Int) by omega, wrap64_id (x := ((n / 10 : Nat) : Int)) (by omega) (by omega), dig (n % 10) (by omega)]
    refine Ev.neg (by omega) (Ev.bind (l1Num_lo (n / 10) (by omega)) ?_)
    have hl := dec_len (n / 10) (by omega)
    refine Ev.pos (by rw [up_size, up_size, List.length_singleton]; omega) (Ev.const ?_)
    rw [up_app, dec_hi n h1]
theorem l1Num_int (n : Int) (h : 0 ≤ n ∧ n < 100) : Ev (fun k => spec_l1Num.f k n) (up (Go.Lib.decDigits n.toNat)) := by
  have := l1Num_ev n.toNat (by omega)
  rw [show ((n.toNat : Nat) : Int) = n by omega] at this
  exact this
theorem itoa_eq (n : Int) (h : 0 ≤ n ∧ n < 100) : strconv_Itoa.f n = some (up (Go.Lib.decDigits n.toNat)) := by
  unfold strconv_Itoa.f
  rw [if_pos h]
def sgt (f : Int) (l : Bool) (s : Int) : List UInt8 := Go.Lib.decDigits f.toNat ++ [if l = true then 60 else 62] ++ Go.Lib.decDigits s.toNat
def stx (f : Int) (l : Bool) (s : Int) : ByteArray × Bool := if sigOK 100 f s then (up (sgt f l s), true) else (⟨#[]⟩, false)
theorem spText_ev (f : Int) (l : Bool) (s : Int) : Ev (fun k => spec_SignalText.f k f l s) (stx f l s) := by
  unfold spec_SignalText.f spec_siText.f stx
  simp only [siSignal_eq, Option.bind_some]
  by_cases h : sigOK 100 f s
  · have h2 := h
    unfold sigOK at h2
    have hf := dec_len f.toNat (by omega)
    have hs := dec_len s.toNat (by omega)
    rw [if_pos h]
    refine Ev.pos (by simpa using h) (Ev.bind (a := up (sgt f l s)) (Ev.iff (fun hl => ?_) (fun hl => ?_)) (Ev.now _))
    · have e1 : up (Go.Lib.decDigits f.toNat) ++ (⟨#[60]⟩ : ByteArray) = up (Go.Lib.decDigits f.toNat ++ [60]) := up_app _ [60]
      refine Ev.bind (l1Num_int f (by omega)) (Ev.pos (by rw [up_size]; omega) (Ev.bind (l1Num_int s (by omega)) ?_))
      rw [e1]
      refine Ev.pos (by rw [up_size, up_size, List.length_append, List.length_singleton]; omega) (Ev.const ?_)
      rw [up_app]; unfold sgt; rw [if_pos hl]
    · have e1 : up (Go.Lib.decDigits f.toNat) ++ (⟨#[62]⟩ : ByteArray) = up (Go.Lib.decDigits f.toNat ++ [62]) := up_app _ [62]
      refine Ev.bind (l1Num_int f (by omega)) (Ev.pos (by rw [up_size]; omega) (Ev.bind (l1Num_int s (by omega)) ?_))
      rw [e1]
      refine Ev.pos (by rw [up_size, up_size, List.length_append, List.length_singleton]; omega) (Ev.const ?_)
      rw [up_app]; unfold sgt; rw [if_neg hl]
  · rw [if_neg h]
    exact Ev.neg (by simpa using h) (Ev.now _)
theorem imText_eq (f : Int) (l : Bool) (s : Int) : impl_SignalText.f f l s = some (stx f l s) := by
  unfold impl_SignalText.f impl_signalText.f stx
  simp only [isSignal_eq, Option.bind_some]
  by_cases h : sigOK 100 f s
  · have h2 := h
    unfold sigOK at h2
    have hf := dec_len f.toNat (by omega)
    have hs := dec_len s.toNat (by omega)
    have e1 : up (Go.Lib.decDigits f.toNat) ++ (⟨#[60]⟩ : ByteArray) = up (Go.Lib.decDigits f.toNat ++ [60]) := up_app _ [60]
    have e2 : up (Go.Lib.decDigits f.toNat) ++ (⟨#[62]⟩ : ByteArray) = up (Go.Lib.decDigits f.toNat ++ [62]) := up_app _ [62]
    rw [if_pos h, if_pos (by simpa using h), itoa_eq f (by omega), itoa_eq s (by omega)]
    simp only [Option.bind_some]
    rw [e1, e2]
    unfold sgt
    by_cases hl : l = true
    · rw [if_pos hl, if_pos (by rw [up_size]; omega), if_pos (by rw [up_size, up_size, List.length_append, List.length_singleton]; omega), if_pos hl]
      simp only [Option.bind_some]
      rw [up_app]
    · rw [if_neg hl, if_pos (by rw [up_size]; omega), if_pos (by rw [up_size, up_size, List.length_append, List.length_singleton]; omega), if_neg hl]
      simp only [Option.bind_some]
      rw [up_app]
  · rw [if_neg h, if_neg (by simpa using h)]
theorem FnExactSignalText : StatFnExactSignalText := by
  intro f l s _ _
  refine Ev.get ?_
  unfold laws_FnExactSignalText.f
  simp only [laws_toSignal.f, Option.bind_some, imText_eq]
  exact Ev.bind (spText_ev f l s) (Ev.pos rfl (Ev.neg (by simp) (Ev.now _)))

end Go.Proofs.YtonnpncccjpmaaaDoor.Pure
