/- strings.IndexAny of the two signs of a signal, at a text of at most eight bytes, whatever its bytes are: the road over runes. No condition. -/
import Derived.Shelf.Strings.IndexAnyAll
import Derived.Shelf.Small.Utf8
import Derived.Laws.RangeAny
import Derived.Laws.Runes
import Derived.WalkMore
import Derived.Lib.OthersKept
import Derived.Shelf.RegionOpenPlain
namespace Go.Proofs.YtmhbcfdodcnjmaaGreatDoor.Iw
open Go Go.Shelf Go.RowKit Go.Lib Go.Proofs
set_option linter.unusedVariables false
set_option linter.unusedSimpArgs false
variable {P : Program} {ρ : Ren}
set_option maxHeartbeats 8000000 in
set_option maxRecDepth 1000000 in
theorem IndexRune_wide (L : Lays.n152 P ρ) (r : Int) (w : World) (h1 : 128 ≤ r) (h2 : r ≤ 2147483647) :
    Calls P (ρ.f 152) #[.string (⟨#[60, 62]⟩ : ByteArray), .int .i32 r] w fun e w' => e = .returned (.int .i64 (-1)) ∧ Below w.heap.size w w' := by
  have t3 := L.t3; have a3 := L.a3; have z3 := L.z3; have v3 := L.v3
  have t4 := L.t4; have a4 := L.a4; have z4 := L.z4; have v4 := L.v4
  have t5 := L.t5; have a5 := L.a5; have z5 := L.z5; have v5 := L.v5
  have t9 := L.t9; have a9 := L.a9; have z9 := L.z9; have v9 := L.v9
  have t21 := L.t21; have a21 := L.a21; have z21 := L.z21; have v21 := L.v21
  have e137 : ∀ args w, (callFunc (ρ.f 137) args).run P w = .ok (.enter (ρ.f 137) args) w := enters_of L.f137 (by kernel_rfl) rfl
  have e119 : ∀ args w, (callFunc (ρ.f 119) args).run P w = .ok (.enter (ρ.f 119) args) w := enters_of L.f119 (by kernel_rfl) rfl
  have mixed := L.mixed
  go_enter L.f152, Body.n152_ntmps ρ
  by_cases hE : r = 65533
  · subst hE
    go_wp2
    go_loopg [5, 6] 2 (fun g _ _ wx => ∃ i : Nat, i + g = 2 ∧ wx = w.iter (⟨#[60, 62]⟩ : ByteArray) i)
    case atStart => exact ⟨0, rfl, rfl⟩
    case round =>
      obtain ⟨i, hig, rfl⟩ := hrel
      cases gk with
      | zero =>
        obtain rfl : i = 2 := by omega
        have hnx := run_next_end (P := P) w (⟨#[60, 62]⟩ : ByteArray) 2
        go_wp2
        go_ret
        exact ⟨rfl, (Below.refl _ _).alloc (Nat.le_refl _) _⟩
      | succ g =>
        have hi : i < (⟨#[60, 62]⟩ : ByteArray).size := by show i < 2; omega
        have hx128 : ((⟨#[60, 62]⟩ : ByteArray)[i]'hi).toNat < 128 := by
          have : i = 0 ∨ i = 1 := by omega
          rcases this with rfl | rfl <;> (first | decide | rfl | (show (60 : Nat) < 128; decide) | (show (62:Nat) < 128; decide))
        have hnx := fun ty => run_next_ascii (P := P) w (⟨#[60, 62]⟩ : ByteArray) i ty hi hx128
        generalize ((⟨#[60, 62]⟩ : ByteArray)[i]'hi) = x at hx128 hnx
        have hxx : ¬ ((x.toNat : Int) = 65533) := by omega
        go_wp2
        go_roundg g
        case measure => omega
        case rel => exact ⟨i + 1, by omega, rfl⟩
  · have hE2 : (r == 65533) = false := beq_eq_false_iff_ne.2 hE
    cases hv : Lib.validRune r
    · go_wp2_with (go_at_fn (ρ.f 119); refine (Any.utf8_ValidRune { L with } _ _).mono ?_; rintro e w' ⟨rfl, hw⟩; rw [hw, hv])
      go_ret
      exact ⟨rfl, Below.refl _ _⟩
    · obtain ⟨hs1, hs2, hl⟩ := encode_facts r (by rw [validRune_eq]; exact hv) h1
      generalize hrs : Utf8.encode r = rs at hs1 hs2 hl
      have hx := hl (by omega)
      obtain ⟨x, hxe⟩ : ∃ x : UInt8, rs[rs.size - 1]'(by omega) = x := ⟨_, rfl⟩
      rw [hxe] at hx
      have HX : Aside (rs[rs.size - 1]'(by omega) = x) := hxe
      clear hl hxe
      have HRS : Aside (Utf8.encode r = rs) := hrs
      have hcv : ∀ W, (convert (ρ.t 21) (ρ.t 9) (.int .i32 r)).run P W = .ok (.string rs) W := fun W => by rw [run_convert_int_string W _ _ _ r (by rw [t21]; rfl) t9, hrs]
      clear hrs
      obtain ⟨c, hc⟩ : ∃ c : ByteArray, c = ⟨#[60, 62]⟩ := ⟨_, rfl⟩
      have hcs : c.size = 2 := by rw [hc]; rfl
      have HC : Aside (c[1]'(by omega) = 62) := by subst hc; rfl
      rw [← hc]
      clear hc
      go_wp2_with (first | (go_at_fn (ρ.f 119); refine (Any.utf8_ValidRune { L with } _ _).mono ?_; rintro e w' ⟨rfl, hw⟩; rw [hw, hv]))
      go_step3
      go_wp2
      go_loopg [9, 10] 1 (fun g v9 _ wx => v9 = .int .i64 ((rs.size : Int) - 1) ∧ wx = w)
      case atStart => exact ⟨by first | rfl | simp, rfl⟩
      case round =>
        obtain ⟨rfl, rfl⟩ := hrel
        by_cases h2s : rs.size = 2
        · have hd : decide (((rs.size : Int) - 1) < 2) = true := decide_eq_true (by omega)
          have hx1 : rs[1]'(by omega) = x := by
            have := HX.out
            simp only [h2s] at this
            exact this
          have e1 : (rs.size : Int) - 1 = 1 := by omega
          rw [e1]
          have hc1 := HC.out
          go_wp2
          go_step3
          go_wp2
          have hne : ¬ ((c[1]'(by omega)).toNat : Int) = (x.toNat : Int) := by rw [hc1]; show ¬ ((62 : Nat) : Int) = _; omega
          have h62 : (c[1]'(by omega)).toNat = 62 := by rw [hc1]; rfl
          have hlt1 : 1 < c.size := by omega
          have hlt2 : 1 < rs.size := by omega
          have hb1 : (62 != (x.toNat : Int)) = true := bne_iff_ne.2 (by omega)
          go_quiet_o (fail)
          go_wp2
          have hIB : ∀ W, Calls P (ρ.f 137) #[.string ByteArray.empty, .int .u8 (x.toNat : Int)] W fun e w' => e = .returned (.int .i64 (-1)) ∧ w' = W := fun W => by rw [show (-1 : Int) = Lib.indexByte ByteArray.empty.data.toList (x.toNat : Int).toNat.toUInt8 from rfl]; exact Any.strings_IndexByte { L with } _ _ W
          go_region_with_o ((go_at_fn (ρ.f 137); refine (hIB _).mono ?_; rintro e w' ⟨rfl, rfl⟩))
          go_wp2
          all_goals (first | go_ret2 | (show Exit.inBlock 2 _ Exit.ret _ _; go_ret2) | (simp only [Exit.noGoto, Exit.then, Exit.inBlock]; go_ret2) | (simp only [Exit.noGoto, Exit.then, Exit.inBlock]; go_ret))
          all_goals exact ⟨rfl, ⟨rfl, rfl, rfl, Nat.le_refl _, fun _ _ => rfl⟩⟩
        · have hd : decide (((rs.size : Int) - 1) < 2) = false := decide_eq_false (by omega)
          go_wp2
          show Exit.inBlock 0 _ Exit.ret _ _
          go_ret
          exact ⟨rfl, Below.refl _ _⟩

theorem cont_of {s : ByteArray} {i j : Nat} (h : (decide (i + j < s.size) && (s.get! (i + j)).toNat / 64 == 2) = true) : ∃ h' : i + j < s.size, 128 ≤ (s[i + j]'h').toNat := by
  simp only [Bool.and_eq_true, decide_eq_true_eq, beq_iff_eq] at h
  refine ⟨h.1, ?_⟩
  have e : s.get! (i + j) = s[i + j]'h.1 := by
    simp [ByteArray.get!, getElem!_pos, h.1]
    rfl
  rw [e] at h
  omega
/-- What a rune of a high byte takes: bytes from 128 on. -/
theorem decode_conts (s : ByteArray) (i : Nat) (h : i < s.size) (ha : 128 ≤ (s[i]'h).toNat) (j : Nat) (hj : j < (Utf8.decode s i).2) : ∃ h' : i + j < s.size, 128 ≤ (s[i + j]'h').toNat := by
  cases j with
  | zero => exact ⟨h, ha⟩
  | succ j =>
    have hn : ¬ (s[i]'h).toNat < 128 := by omega
    simp only [Utf8.decode, get_at s i h, hn, if_false] at hj
    split at hj
    · next h2 =>
      simp only [Bool.and_eq_true] at h2
      split at hj
      · obtain rfl : j = 0 := by simp at hj; omega
        exact cont_of (by simpa using h2.2)
      · simp at hj
    · split at hj
      · next h2 =>
        simp only [Bool.and_eq_true] at h2
        split at hj
        · have : j = 0 ∨ j = 1 := by simp at hj; omega
          rcases this with rfl | rfl
          · exact cont_of (by simpa using h2.1.2)
          · exact cont_of (by simpa using h2.2)
        · simp at hj
      · split at hj
        · next h2 =>
          simp only [Bool.and_eq_true] at h2
          split at hj
          · have : j = 0 ∨ j = 1 ∨ j = 2 := by simp at hj; omega
            rcases this with rfl | rfl | rfl
            · exact cont_of (by simpa using h2.1.1.2)
            · exact cont_of (by simpa using h2.1.2)
            · exact cont_of (by simpa using h2.2)
          · simp at hj
        · simp at hj
theorem noAny_wide {s : ByteArray} {i : Nat} (hn : Lib.NoAny s.data.toList [60, 62] i) (h : i < s.size) (ha : 128 ≤ (s[i]'h).toNat) : Lib.NoAny s.data.toList [60, 62] (i + (Utf8.decode s i).2) := by
  intro j b hj hb
  by_cases hji : j < i
  · exact hn j b hji hb
  · obtain ⟨h', hge⟩ := decode_conts s i h ha (j - i) (by omega)
    have e : i + (j - i) = j := by omega
    simp only [e] at h' hge
    have hb2 := Lib.data_getElem? s j h'
    rw [hb2] at hb
    cases hb
    rw [List.contains_eq_any_beq]
    simp only [List.any_cons, List.any_nil, Bool.or_false, Bool.or_eq_false_iff, beq_eq_false_iff_ne]
    exact ⟨fun e => by rw [e] at hge; revert hge; decide, fun e => by rw [e] at hge; revert hge; decide⟩
theorem decode_end (s : ByteArray) (i : Nat) (h : i < s.size) : i + (Utf8.decode s i).2 ≤ s.size := by
  by_cases ha : 128 ≤ (s[i]'h).toNat
  · have h1 := (decode_high s i h ha).2
    obtain ⟨h', _⟩ := decode_conts s i h ha ((Utf8.decode s i).2 - 1) (by omega)
    omega
  · rw [decode_ascii s i h (by omega)]
    show i + 1 ≤ s.size
    omega
set_option maxHeartbeats 8000000 in
set_option maxRecDepth 1000000 in
theorem IndexAny_short_wide (L : Lays.n153 P ρ) (s : ByteArray) (w : World) (h8 : s.size ≤ 8) :
    Calls P (ρ.f 153) #[.string s, .string (⟨#[60, 62]⟩ : ByteArray)] w fun e w' => e = .returned (.int .i64 (Lib.indexAny s.data.toList [60, 62])) ∧ Below w.heap.size w w' := by
  have h8z : decide ((8 : Int) < (s.size : Int)) = false := decide_eq_false (by omega)
  have t3 := L.t3; have a3 := L.a3; have z3 := L.z3; have v3 := L.v3
  have t4 := L.t4; have a4 := L.a4; have z4 := L.z4; have v4 := L.v4
  have t5 := L.t5; have a5 := L.a5; have z5 := L.z5; have v5 := L.v5
  have t9 := L.t9; have a9 := L.a9; have z9 := L.z9; have v9 := L.v9
  have t21 := L.t21; have a21 := L.a21; have z21 := L.z21; have v21 := L.v21
  have e152 : ∀ args w, (callFunc (ρ.f 152) args).run P w = .ok (.enter (ρ.f 152) args) w := enters_of L.f152 (by kernel_rfl) rfl
  have e226 : ∀ args w, (callFunc (ρ.f 226) args).run P w = .ok (.enter (ρ.f 226) args) w := enters_of L.f226 (by kernel_rfl) rfl
  obtain ⟨chars, hc⟩ : ∃ c : ByteArray, c = ⟨#[60, 62]⟩ := ⟨_, rfl⟩
  have h2 : 2 ≤ chars.size := by rw [hc]; exact Nat.le_refl _
  have HIA : Aside (∀ (x : Int) (W : World), 0 ≤ x → x < 128 → Calls P (ρ.f 152) #[.string chars, .int .i32 x] W fun e w' => e = .returned (.int .i64 (Lib.indexByte [60, 62] x.toNat.toUInt8)) ∧ w' = W) := fun x W h0 h1 => by rw [hc]; exact Any.strings_IndexRune_ascii { L with } _ _ _ h0 h1
  have HIW : Aside (∀ (x : Int) (W : World), 128 ≤ x → x ≤ 2147483647 → Calls P (ρ.f 152) #[.string chars, .int .i32 x] W fun e w' => e = .returned (.int .i64 (-1)) ∧ Below W.heap.size W w') := fun x W h0 h1 => by rw [hc]; exact IndexRune_wide { L with } _ _ h0 h1
  have hemp : chars.toList.isEmpty = false := by rw [hc, Lib.toList_data]; rfl
  have hn1 : ((chars.size : Int) == 1) = false := beq_eq_false_iff_ne.2 (by omega)
  rw [← hc]
  clear hc
  go_enter L.f153, Body.n153_ntmps ρ
  go_wp2_with (go_at_fn (ρ.f 226); refine (Any.strings_shouldUseASCIISet { L with } _ _).mono ?_; rintro e w' ⟨rfl, hw⟩; rw [hw, h8z])
  go_loopg [9, 10] s.size (fun g _ _ wx => ∃ i : Nat, i ≤ s.size ∧ s.size - i ≤ g ∧ wx.heap[w.heap.size]? = some (.stringIter s i) ∧ Aside (Below w.heap.size w wx) ∧ Lib.NoAny s.data.toList [60, 62] i)
  case atStart => exact ⟨0, by omega, by omega, by simp [World.iter_heap], (Below.refl _ _).alloc (Nat.le_refl _) _, Lib.NoAny.zero _ _⟩
  case round =>
    obtain ⟨i, hi0, hig, hk, HB, hno⟩ := hrel
    have HN : Aside (Lib.NoAny s.data.toList [60, 62] i) := hno
    clear hno
    by_cases hi : i < s.size
    · obtain ⟨g, rfl⟩ : ∃ g, gk = g + 1 := ⟨gk - 1, by omega⟩
      obtain ⟨x, hx⟩ : ∃ x : UInt8, s[i]'hi = x := ⟨_, rfl⟩
      have hxl : s.data.toList[i]? = some x := by rw [← hx]; exact Lib.data_getElem? s i hi
      have Hx : Aside (s.data.toList[i]? = some x) := hxl
      clear hxl
      by_cases hx128 : x.toNat < 128
      · have hnx := fun ty => Lib.run_next_ascii_at (P := P) wr w.heap.size s i ty hk hi (by rw [hx]; exact hx128)
        rw [hx] at hnx
        clear hx
        have hkk := Lib.iterAt_heap wr w.heap.size s i (i + 1) hk
        have HBB : Aside (Below w.heap.size w (wr.iterAt w.heap.size s (i + 1))) := Lib.below_iterAt HB.out (Nat.le_refl _) _ _
        generalize wr.iterAt w.heap.size s (i + 1) = w2 at hnx hkk HBB
        have hcon := Lib.contains_iff_indexByte [60, 62] x
        have hback : ((x.toNat : Int)).toNat.toUInt8 = x := by simp
        cases hin : ([60, 62] : List UInt8).contains x
        · rw [hin] at hcon
          have hlt : ¬ ((0 : Int) ≤ Lib.indexByte [60, 62] x) := of_decide_eq_false hcon.symm
          clear hcon
          go_wp2_with (go_at_fn (ρ.f 152); refine (HIA.out _ _ (by omega) (by omega)).mono ?_; rintro e w' ⟨rfl, hw⟩; rw [hw, hback])
          go_roundg g
          case measure => omega
          case rel => exact ⟨i + 1, by omega, by omega, hkk, HBB, HN.out.succ Hx.out hin⟩
        · rw [hin] at hcon
          have hge : (0 : Int) ≤ Lib.indexByte [60, 62] x := of_decide_eq_true hcon.symm
          clear hcon
          go_wp2_with (go_at_fn (ρ.f 152); refine (HIA.out _ _ (by omega) (by omega)).mono ?_; rintro e w' ⟨rfl, hw⟩; rw [hw, hback])
          go_ret
          exact ⟨by rw [Lib.indexAny_hit HN.out Hx.out hin]; rfl, HBB.out⟩
      · have hnx := fun ty => Lib.run_next_any_at (P := P) wr w.heap.size s i ty hk hi
        have hd := decode_high s i hi (by rw [hx]; omega)
        have hd2 := decode_le s i
        have hde := decode_end s i hi
        have HNN : Aside (Lib.NoAny s.data.toList [60, 62] (i + (Utf8.decode s i).2)) := noAny_wide HN.out hi (by rw [hx]; omega)
        have hkk := Lib.iterAt_heap wr w.heap.size s i (i + (Utf8.decode s i).2) hk
        have HBB : Aside (Below w.heap.size w (wr.iterAt w.heap.size s (i + (Utf8.decode s i).2))) := Lib.below_iterAt HB.out (Nat.le_refl _) _ _
        clear hx
        generalize wr.iterAt w.heap.size s (i + (Utf8.decode s i).2) = w2 at hnx hkk HBB
        generalize (Utf8.decode s i).1 = c at hnx hd hd2
        generalize (Utf8.decode s i).2 = n at hkk HNN hde hd
        have hsz : w.heap.size < w2.heap.size := (Array.getElem?_eq_some_iff.1 hkk).1
        go_wp2_with (go_at_fn (ρ.f 152); refine (HIW.out _ _ (by omega) (by omega)).mono ?_; rintro e w' ⟨rfl, hw⟩)
        go_roundg g
        case measure => omega
        case rel => exact ⟨i + n, by omega, by omega, by rw [hw.block _ hsz]; exact hkk, HBB.out.trans (hw.mono HBB.out.size), HNN.out⟩
    · have hnx := fun ty => Lib.run_next_end_at (P := P) wr w.heap.size s i ty hk hi
      go_wp2
      go_ret
      exact ⟨by rw [Lib.indexAny_none (by rw [← Lib.size_eq, show s.size = i by omega]; exact HN.out)]; rfl, HB.out⟩
end Go.Proofs.YtmhbcfdodcnjmaaGreatDoor.Iw
