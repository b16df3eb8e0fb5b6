/- What a value that comes in reads as, in the forms that the printed contracts ask for. No condition. -/
import Derived.Test.YtfaakdokcldnkaaGreatDoorWWords
import Derived.Lib.SmallJoins
import Derived.SizedLaws
import Derived.ChangeSlices
import Derived.OpenShut
import Derived.ShutString
import Derived.ChangeOld
import Derived.WalkKit
namespace Go.Proofs.YtfaakdokcldnkaaGreatDoor.Opn
open Go.ChangeShapes Go.WideShapes Go.RowKit Go.Deep Go.Joins Go.Proofs.YtfaakdokcldnkaaGreatDoorW.PrintWords

/-- A number of the kind int. -/
def I64 (n : Int) : Prop := -9223372036854775808 ≤ n ∧ n ≤ 9223372036854775807
theorem i64_of {n : Int} (h : (Lit.int .i64 n).wf = true) : I64 n := by
  simp only [Lit.wf, Bool.and_eq_true, decide_eq_true_eq] at h
  have e1 : IntKind.i64.min = -9223372036854775808 := by decide
  have e2 : IntKind.i64.max = 9223372036854775807 := by decide
  rw [e1, e2] at h
  exact h
theorem u8_of {n : Int} (h : (Lit.int .u8 n).wf = true) : 0 ≤ n ∧ n ≤ 255 := by
  simp only [Lit.wf, Bool.and_eq_true, decide_eq_true_eq] at h
  have e1 : IntKind.u8.min = 0 := by decide
  have e2 : IntKind.u8.max = 255 := by decide
  rw [e1, e2] at h
  exact h
/-- Whatever reads at type t has cells that say some x of kind K; and 'good' holds of x. -/
def Opens {α : Type} (P : Program) (K : Kd α) (t : TypeId) (good : α → Prop) : Prop :=
  ∀ (H : Type) (enc : TypeId × Value → H) (w : World) (sp : Nat → Bool) (held : Bool) (fuel : Nat) (cs : List Value) (x : DataW H × List MemPlace),
    DataW.trod enc P w 0 sp held fuel t cs = some x → (∀ n ∈ x.1.weights P t, n ≤ 140737488351232) → ∃ a : α, K.K w a cs ∧ good a

theorem weightsAll_mem {H : Type} {P : Program} {e : TypeId} : ∀ (l : List (DataW H)) (d : DataW H), d ∈ l → ∀ q ∈ d.weights P e, q ∈ DataW.weightsAll P e l
  | [], _, h, _, _ => absurd h (by simp)
  | x :: l, d, h, q, hq => by
    simp only [DataW.weightsAll, List.mem_append]
    rcases List.mem_cons.1 h with rfl | h
    · exact .inl hq
    · exact .inr (weightsAll_mem l d h q hq)
section
variable {P : Program} {t e : TypeId}
theorem opens_int {k : IntKind} (ht : P.underlying t = some (.int k)) : Opens P (Kd.int k) t (fun n => (Lit.int k n).wf = true) := by
  intro H enc w sp held fuel cs x h _
  obtain ⟨n, rfl, _, hw⟩ := DataW.trod_int ht h
  exact ⟨n, rfl, hw⟩
theorem opens_bool (ht : P.underlying t = some .bool) : Opens P Kd.bool t (fun _ => True) := by
  intro H enc w sp held fuel cs x h _
  obtain ⟨n, rfl, _⟩ := DataW.trod_bool ht h
  exact ⟨n, rfl, trivial⟩
theorem opens_string (ht : P.underlying t = some .string) : Opens P Kd.string t (fun s => s.size ≤ 140737488351232) := by
  intro H enc w sp held fuel cs x h hz
  obtain ⟨n, rfl, rfl, _⟩ := DataW.trod_string ht h
  have := hz n.data.toList.length (by simp [DataW.weights])
  rw [Array.length_toList] at this
  exact ⟨n, rfl, this⟩
theorem opens_slice {α : Type} {K : Kd α} {good : α → Prop} (ht : P.underlying t = some (.slice e)) (hsz : P.cellsOf e = K.sz) {B : Nat} (hB : P.bytesOf e = B) (he : Opens P K e good) :
    Opens P (Kd.slice e K) t (fun l => l.length * B ≤ 140737488351232 ∧ ∀ x ∈ l, good x) := by
  intro H enc w sp held fuel cs x h hz
  rcases DataW.trod_slice ht h with ⟨rfl, _⟩ | ⟨a, len, cap, elems, rest, n, _, rfl, rfl, _, hl, hm, hlen, hel, _, _⟩
  · exact ⟨[], ⟨none, 0, rfl, Nat.le_refl _, rfl, by simp, fun hn => absurd hn (by simp)⟩, by simp, fun x hx => absurd hx (by simp)⟩
  · have hz1 : len * B ≤ 140737488351232 := by
      have := hz ((elems.length + rest.length) * B) (by simp [DataW.weights, ht, hB])
      exact Nat.le_trans (Nat.mul_le_mul_right _ (by omega)) this
    have hz2 : ∀ y ∈ elems, ∀ q ∈ y.1.weights P e, q ≤ 140737488351232 := by
      intro y hy q hq
      refine hz q ?_
      simp only [DataW.weights, ht, List.mem_cons, List.mem_append]
      exact .inr (.inl (weightsAll_mem (elems.map (·.1)) y.1 (List.mem_map.2 ⟨y, hy, rfl⟩) q hq))
    have key : ∀ m, m ≤ len → ∃ l : List α, l.length = m ∧ (∀ x ∈ l, good x) ∧ ∀ j p, l[j]? = some p → ∃ c, c.length = K.sz ∧ K.K w p c ∧ ∀ i u, c[i]? = some u → w.cell? (a.add (j * K.sz + i)) = some u := by
      intro m
      induction m with
      | zero => intro _; exact ⟨[], rfl, fun x hx => absurd hx (by simp), fun j p hp => absurd hp (by simp)⟩
      | succ m ih =>
        intro hm'
        obtain ⟨l, h1, h2, h3⟩ := ih (by omega)
        have he' := hel m (by omega)
        have hlt : m < elems.length := by omega
        rw [List.getElem?_eq_getElem hlt, Option.bind_eq_some_iff] at he'
        obtain ⟨c, hc, hy⟩ := he'
        obtain ⟨p, hp, hg⟩ := he H enc w sp held n c _ hy (hz2 _ (List.getElem_mem hlt))
        refine ⟨l ++ [p], by simp [h1], fun x hx => ?_, fun j q hq => ?_⟩
        · rcases List.mem_append.1 hx with hx | hx
          · exact h2 x hx
          · rw [List.mem_singleton.1 hx]; exact hg
        · rcases Nat.lt_or_ge j m with hj | hj
          · rw [List.getElem?_append_left (by omega)] at hq
            exact h3 j q hq
          · rw [List.getElem?_append_right (by omega)] at hq
            have hjm : j = m := by
              have := (List.getElem?_eq_some_iff.1 hq).1
              simp at this
              omega
            subst hjm
            simp [h1] at hq
            subst hq
            refine ⟨c, K.K_len hp, hp, fun i u hu => ?_⟩
            have hi := (List.getElem?_eq_some_iff.1 hu).1
            obtain ⟨hcl, _, hcc⟩ := World.cells?_some hc
            have := hcc i (by rw [hsz, ← K.K_len hp]; exact hi)
            rw [hu] at this
            rw [← this, hsz, Addr.add_add]
    obtain ⟨l, h1, h2, h3⟩ := key len (Nat.le_refl _)
    exact ⟨l, ⟨some a, cap, by rw [h1], by omega, rfl, by rw [h1]; simp only [maxLen] at hm; omega, fun _ => ⟨a, rfl, h3⟩⟩, by rw [h1]; exact hz1, h2⟩
theorem opens_struct2 {α β γ : Type} {K0 : Kd α} {K1 : Kd β} {g0 : α → Prop} {g1 : β → Prop} {f : γ → α × β} (mk : α → β → γ) (hf : ∀ a b, f (mk a b) = (a, b)) {f0 f1 : Field} (hs : P.underlying t = some (.struct #[f0, f1])) (hone : oneCellFields P #[f0, f1] = true) (hC : P.cellsOf t = 2)
    (h0 : Opens P K0 f0.type g0) (h1 : Opens P K1 f1.type g1) : Opens P (Kd.iso (Kd.pair K0 K1) f) t (fun x => g0 (f x).1 ∧ g1 (f x).2) := by
  intro H enc w sp held fuel cs x h hz
  obtain ⟨y0, y1, n, rfl, hl, r0, r1⟩ := trod_struct2 hs h
  simp only [DataW.weights, hs, List.map_cons, List.map_nil, DataW.weightsEach, List.mem_append] at hz
  rw [hC] at hl
  match cs, hl with
  | [c0, c1], _ =>
    obtain ⟨o0, k0⟩ := hone_of hone 0 f0 rfl
    obtain ⟨o1, k1⟩ := hone_of hone 1 f1 rfl
    obtain ⟨a, ka, ga⟩ := h0 H enc w sp held n [c0] y0 (by simpa [o0, k0] using r0) (fun q hq => hz q ((.inl hq)))
    obtain ⟨b, kb, gb⟩ := h1 H enc w sp held n [c1] y1 (by simpa [o1, k1] using r1) (fun q hq => hz q ((.inr (.inl hq))))
    refine ⟨mk a b, ?_, ?_⟩
    · show (Kd.pair K0 K1).K w (f (mk a b)) _
      rw [hf]
      exact ⟨[c0], [c1], rfl, ka, kb⟩
    · simp only [hf]
      exact ⟨ga, gb⟩
theorem opens_struct3 {α β γ δ : Type} {K0 : Kd α} {K1 : Kd β} {K2 : Kd γ} {g0 : α → Prop} {g1 : β → Prop} {g2 : γ → Prop} {f : δ → α × β × γ} (mk : α → β → γ → δ) (hf : ∀ a b c, f (mk a b c) = (a, b, c)) {f0 f1 f2 : Field} (hs : P.underlying t = some (.struct #[f0, f1, f2])) (hone : oneCellFields P #[f0, f1, f2] = true) (hC : P.cellsOf t = 3)
    (h0 : Opens P K0 f0.type g0) (h1 : Opens P K1 f1.type g1) (h2 : Opens P K2 f2.type g2) : Opens P (Kd.iso (Kd.pair K0 (Kd.pair K1 K2)) f) t (fun x => g0 (f x).1 ∧ g1 (f x).2.1 ∧ g2 (f x).2.2) := by
  intro H enc w sp held fuel cs x h hz
  obtain ⟨y0, y1, y2, n, rfl, hl, r0, r1, r2⟩ := trod_struct3 hs h
  simp only [DataW.weights, hs, List.map_cons, List.map_nil, DataW.weightsEach, List.mem_append] at hz
  rw [hC] at hl
  match cs, hl with
  | [c0, c1, c2], _ =>
    obtain ⟨o0, k0⟩ := hone_of hone 0 f0 rfl
    obtain ⟨o1, k1⟩ := hone_of hone 1 f1 rfl
    obtain ⟨o2, k2⟩ := hone_of hone 2 f2 rfl
    obtain ⟨a, ka, ga⟩ := h0 H enc w sp held n [c0] y0 (by simpa [o0, k0] using r0) (fun q hq => hz q ((.inl hq)))
    obtain ⟨b, kb, gb⟩ := h1 H enc w sp held n [c1] y1 (by simpa [o1, k1] using r1) (fun q hq => hz q ((.inr (.inl hq))))
    obtain ⟨c, kc, gc⟩ := h2 H enc w sp held n [c2] y2 (by simpa [o2, k2] using r2) (fun q hq => hz q ((.inr (.inr (.inl hq)))))
    refine ⟨mk a b c, ?_, ?_⟩
    · show (Kd.pair K0 (Kd.pair K1 K2)).K w (f (mk a b c)) _
      rw [hf]
      exact ⟨[c0], [c1, c2], rfl, ka, [c1], [c2], rfl, kb, kc⟩
    · simp only [hf]
      exact ⟨ga, gb, gc⟩
theorem opens_struct4 {α β γ δ ε : Type} {K0 : Kd α} {K1 : Kd β} {K2 : Kd γ} {K3 : Kd δ} {g0 : α → Prop} {g1 : β → Prop} {g2 : γ → Prop} {g3 : δ → Prop} {f : ε → α × β × γ × δ} (mk : α → β → γ → δ → ε) (hf : ∀ a b c d, f (mk a b c d) = (a, b, c, d)) {f0 f1 f2 f3 : Field} (hs : P.underlying t = some (.struct #[f0, f1, f2, f3])) (hone : oneCellFields P #[f0, f1, f2, f3] = true) (hC : P.cellsOf t = 4)
    (h0 : Opens P K0 f0.type g0) (h1 : Opens P K1 f1.type g1) (h2 : Opens P K2 f2.type g2) (h3 : Opens P K3 f3.type g3) : Opens P (Kd.iso (Kd.pair K0 (Kd.pair K1 (Kd.pair K2 K3))) f) t (fun x => g0 (f x).1 ∧ g1 (f x).2.1 ∧ g2 (f x).2.2.1 ∧ g3 (f x).2.2.2) := by
  intro H enc w sp held fuel cs x h hz
  obtain ⟨y0, y1, y2, y3, n, rfl, hl, r0, r1, r2, r3⟩ := trod_struct4 hs h
  simp only [DataW.weights, hs, List.map_cons, List.map_nil, DataW.weightsEach, List.mem_append] at hz
  rw [hC] at hl
  match cs, hl with
  | [c0, c1, c2, c3], _ =>
    obtain ⟨o0, k0⟩ := hone_of hone 0 f0 rfl
    obtain ⟨o1, k1⟩ := hone_of hone 1 f1 rfl
    obtain ⟨o2, k2⟩ := hone_of hone 2 f2 rfl
    obtain ⟨o3, k3⟩ := hone_of hone 3 f3 rfl
    obtain ⟨a, ka, ga⟩ := h0 H enc w sp held n [c0] y0 (by simpa [o0, k0] using r0) (fun q hq => hz q ((.inl hq)))
    obtain ⟨b, kb, gb⟩ := h1 H enc w sp held n [c1] y1 (by simpa [o1, k1] using r1) (fun q hq => hz q ((.inr (.inl hq))))
    obtain ⟨c, kc, gc⟩ := h2 H enc w sp held n [c2] y2 (by simpa [o2, k2] using r2) (fun q hq => hz q ((.inr (.inr (.inl hq)))))
    obtain ⟨d, kd, gd⟩ := h3 H enc w sp held n [c3] y3 (by simpa [o3, k3] using r3) (fun q hq => hz q ((.inr (.inr (.inr (.inl hq))))))
    refine ⟨mk a b c d, ?_, ?_⟩
    · show (Kd.pair K0 (Kd.pair K1 (Kd.pair K2 K3))).K w (f (mk a b c d)) _
      rw [hf]
      exact ⟨[c0], [c1, c2, c3], rfl, ka, [c1], [c2, c3], rfl, kb, [c2], [c3], rfl, kc, kd⟩
    · simp only [hf]
      exact ⟨ga, gb, gc, gd⟩
end
section
variable {H : Type} {enc : TypeId × Value → H} {P : Program} {w : World} {sp : Nat → Bool} {held : Bool} {t : TypeId} {v : Value} {d : DataW H} {p : List MemPlace}
/-- A struct by value: its cells are the value's own. -/
theorem open_struct {α : Type} {K : Kd α} {good : α → Prop} {fs : Array Field} {r : Reach} {b0 : Nat} (hs : P.underlying t = some (.struct fs)) (ho : Opens P K t good) (hv : Value.okWide P w r b0 t v) (h : DataW.Trod enc P w 0 sp held t v d p) (hz : ∀ n ∈ d.weights P t, n ≤ 140737488351232) :
    ∃ (cs : List Value) (a : α), v = .agg cs.toArray ∧ K.K w a cs ∧ good a := by
  obtain ⟨cs, rfl, _⟩ := okWide_struct hs hv
  obtain ⟨n, hn⟩ := h
  obtain ⟨a, ka, ga⟩ := ho H enc w sp held n _ _ hn hz
  exact ⟨cs.toList, a, by simp, by simpa [Value.cells] using ka, ga⟩
/-- A slice. -/
theorem open_row {α : Type} {K : Kd α} {good : List α → Prop} {e : TypeId} {r : Reach} {b0 : Nat} (hs : P.underlying t = some (.slice e)) (ho : Opens P (Kd.slice e K) t good) (hv : Value.okWide P w r b0 t v) (h : DataW.Trod enc P w 0 sp held t v d p) (hz : ∀ n ∈ d.weights P t, n ≤ 140737488351232) :
    ∃ (l : List α) (A : Option Addr) (c : Nat), v = .slice A l.length c ∧ l.length ≤ c ∧ K.C w A l.length l ∧ good l := by
  obtain ⟨a, len, cap, rfl⟩ := okWide_slice hs hv
  obtain ⟨n, hn⟩ := h
  obtain ⟨l, ⟨A, c, hc, hl, hr⟩, gl⟩ := ho H enc w sp held n _ _ hn hz
  simp only [Value.cells, List.cons.injEq, and_true] at hc
  exact ⟨l, A, c, by simpa using hc, hl, hr, gl⟩
end
/-- What each parameter weighs. -/
theorem weighs {H : Type} {P : Program} {ts : List TypeId} {ds : List (DataW H)} (h : (DataW.weightsEach P ts ds).all (· ≤ reachBytes) = true) {j : Nat} {t : TypeId} {d : DataW H} (ht : ts[j]? = some t) (hd : ds[j]? = some d) : ∀ n ∈ d.weights P t, n ≤ 140737488351232 := by
  intro n hn
  have := List.all_eq_true.1 h n (DataW.weights_mem_each ht hd n hn)
  exact of_decide_eq_true this
end Go.Proofs.YtfaakdokcldnkaaGreatDoor.Opn
