/- The door of a row that lists variables: the wrap that hands on what is listed and the world's shape; the witness's world; the fact of the world that a function's contract bears. No condition. -/
import Derived.Test.YtfaakdokcldnkaaGreatDoorRows
import Derived.Test.YtfaakdokcldnkaaGreatDoorSh
import Derived.Handed
import Derived.Below
import Derived.SizedLaws
import Derived.LaidMore
import Derived.LaidLaws
import Derived.LaidHandle
import Derived.OpenShut
import Derived.Shelf.Vars
import Derived.MakeChecks
import Derived.Lib.LaidU8
import Derived.Test.YtfaakdokcldnkaaGreatDoorSq
namespace Go.Proofs.YtfaakdokcldnkaaGreatDoor.Dr
open Go Go.RowKit Go.ChangeShapes Go.WideShapes
set_option linter.unusedVariables false
section
variable {H : Type} {enc : TypeId × Value → H}
theorem wrap {a : Assume} {C : Checked} {os : Os} {f : FuncId} {fn : Func} {s : ChangeSpec} {conds : List PathCond} {apart fresh handsOn again : Bool} {X : World → Array Value → Prop}
    (hX : ∀ (w w' : World) (args : Array Value), w.heap = w'.heap → X w args → X w' args)
    (own : ownKnob C.prog.godebug = none) (started : os.Started) (noInit : C.prog.inits.idxOf? f = none) (hfn : C.prog.funcs[f]? = some fn)
    (witness : ∃ (w : World) (tape : Tape) (i : Input), w.os = os ∧ (w.forCall tape i).Shaped C.prog ∧ i.vars = [] ∧ Input.okWide C.prog (w.forCall tape i) .any w.heap.size f i ∧
      ((s.pre enc C.prog fn conds apart (w.forCall tape i).memory i.args ∧ X (w.forCall tape i).memory i.args) ∧ sizedMet enc C.prog fn (OpenSpec.ofChange s) apart (w.forCall tape i).memory i.args) ∧ a.holds C.prog (lone (Frame.enter C.prog f i.args .normal) [] (w.forCall tape i)))
    (contract : ∀ (W : World) (base : Nat) (args : Array Value) (ds gs : List (DataW H)) (before : List MemPlace),
      (∀ (j : Nat) t v, fn.params[j]? = some t → args[j]? = some v → Value.okWide C.prog W .any base t v) →
      DataW.Whole enc C.prog fn.params.toList s.vars apart W args.toList ds gs before →
      (DataW.weightsEach C.prog (fn.params.toList ++ s.plain.varTypes C.prog) (ds ++ gs)).all (· ≤ reachBytes) = true → X W args → W.ShapedOpen C.prog →
      Calls C.prog f args W fun e W' => ∃ v, e = .returned v ∧ s.post enc C.prog fn apart fresh handsOn again W args v W') :
    ReturnsInHanded a C os f .any (fun w args => (s.pre enc C.prog fn conds apart w args ∧ X w args) ∧ sizedMet enc C.prog fn (OpenSpec.ofChange s) apart w args) (s.post enc C.prog fn apart fresh handsOn again) := by
  refine returnsInHanded_of_calls own started noInit witness ?_
  intro w tape i _ hsh _ hok hpre hholds
  obtain ⟨_, _, _, fn', hfn', _, _, _, _, hval⟩ := hok
  have e : fn' = fn := Option.some.inj (hfn'.symm.trans hfn)
  subst e
  obtain ⟨⟨⟨ds, gs, before, hw, hc⟩, hx⟩, hz⟩ := hpre
  have hw' := DataW.Whole.of_heap (w' := w.forCall tape i) (by rfl) hw
  refine (contract (w.forCall tape i) w.heap.size i.args ds gs before hval hw' (hz.weights hw) (hX _ _ _ (by rfl) hx) hsh).mono fun e W' ⟨v, he, hp⟩ => ?_
  subst he
  exact ChangeSpec.post_blind hp
end
/-- What is listed. -/
def list : List (String × DataW Unit) := [("math/bits.deBruijn32tab", Rows.laid_math_bits_deBruijn32tab), ("math/bits.deBruijn64tab", Rows.laid_math_bits_deBruijn64tab), ("internal/strconv.uint64pow10", Rows.laid_internal_strconv_uint64pow10), ("unicode/utf8.acceptRanges", Rows.laid_unicode_utf8_acceptRanges), ("strconv.ErrRange", Rows.laid_strconv_ErrRange), ("strconv.ErrSyntax", Rows.laid_strconv_ErrSyntax), ("unicode/utf8.first", Rows.laid_unicode_utf8_first)]
/-- The witness's world: the door's own, with the great tables laid. -/
noncomputable def world (os : Os) : World := { World.doorLaid Tryz.prog 72 os with heap := (World.doorLaid Tryz.prog 72 os).heap.setIfInBounds 4 (.cells (Go.Pinned.utf8FirstZ.map fun (n : Nat) => Value.int .u8 n).toArray 146 (0, 0)) }
set_option maxRecDepth 100000 in
theorem met (os : Os) (args : Array Value) : laidMetH Tryz.prog list ((world os).forCall (fun _ _ => 0) ⟨#[], args, []⟩).memory :=
  laidMetH_of_parts3 (fuel := 8) (laidMet_of_run' 8 (by kernel_rfl) (by kernel_rfl)) (by kernel_rfl) (by kernel_rfl)
set_option maxRecDepth 100000 in
theorem shaped (os : Os) (args : Array Value) : ((world os).forCall (fun _ _ => 0) ⟨#[], args, []⟩).Shaped Tryz.prog := World.shaped_of_RefB (by kernel_rfl) (by kernel_rfl)
/-- The world at a call, and all that came of it below its heap's end. -/
def Tab (w : World) : Prop := ∃ W : World, (W.ShapedOpen Tryz.prog ∧ laidMetH Tryz.prog list W) ∧ Below W.heap.size W w
theorem Tab.first {W : World} (h : W.ShapedOpen Tryz.prog) (hl : laidMetH Tryz.prog list W) : Tab W := ⟨W, ⟨h, hl⟩, Below.refl _ _⟩
theorem Tab.below {w w' : World} (h : Tab w) (hb : Below w.heap.size w w') : Tab w' := by
  obtain ⟨W, hM, hB⟩ := h
  exact ⟨W, hM, hB.trans (hb.mono hB.size)⟩
theorem Tab.alloc {w : World} (h : Tab w) (o : Obj) : Tab (w.alloc o) := h.below ((Below.refl _ _).alloc (Nat.le_refl _) o)
theorem Tab.drew {w : World} (h : Tab w) : Tab w.drew := h.below (Below.refl _ _).drew
theorem Tab.drewN {w : World} (h : Tab w) (n : Nat) : Tab (w.drewN n) := by
  obtain ⟨W, hM, hB⟩ := h
  exact ⟨W, hM, hB.trans ⟨rfl, rfl, rfl, Nat.le_refl _, fun _ _ => rfl⟩⟩
theorem mm {w W : World} (_h : Go.Proofs.YtfaakdokcldnkaaGreatDoorW.PrintWords.Aside0 (Tab w)) (h : Tab W := by first | exact HMM.out | exact Dr.Tab.below HMM.out bw | (repeat (first | exact HMM.out | apply Dr.Tab.drewN | apply Dr.Tab.drew | apply Dr.Tab.alloc))) : Tab W := h
theorem Tab.max {w : World} (h : Tab w) : ∃ m : Int, w.cell? ⟨0, 0, none⟩ = some (.int .i64 m) := by
  obtain ⟨W, ⟨hM, _⟩, hB⟩ := h
  obtain ⟨m, hm⟩ := (Tryz.laysM144).s1_3 W hM
  exact ⟨m, (hB.cell (World.block_lt_of_cell? W _ hm)).trans hm⟩
theorem cell_iface {P : Program} {w : World} {g : Nat} {t : TypeId} {n nm : String} {d : DataW Unit} {ms : Array (String × TypeId)} {L : List (String × DataW Unit)}
    (h : laidMet P L w) (hm : (n, .iface nm d) ∈ L) (hg : P.globalNamed n = some g) (ht : (P.globals[g]?).map (·.type) = some t) (hu : P.underlying t = some (.interface ms)) :
    ∃ te pe, w.cell? ⟨g, 0, none⟩ = some (.iface te pe) := by
  obtain ⟨g', t', cs, fuel, p, h1, h2, h3, h4⟩ := Lib.laidMet.reads h hm
  cases h1.symm.trans hg
  cases h2.symm.trans ht
  obtain ⟨f1, u, v, hc, _⟩ := iface_of_trod hu h4
  refine ⟨u, v, ?_⟩
  have h5 := World.var?_cell hg h3 0
  rw [h5]
  rw [← Array.getElem?_toList, hc]
  rfl
theorem Tab.synt {w : World} (h : Tab w) : ∃ ev, w.cell? ⟨1, 0, none⟩ = some ev ∧ (ev = .nilIface ∨ ∃ te pe, ev = .iface te pe) := by
  obtain ⟨W, ⟨_, hM⟩, hB⟩ := h
  rw [MakeChecks.laidMetH_plain _ _ _ (by kernel_rfl)] at hM
  obtain ⟨te, pe, h1⟩ := cell_iface hM (.tail _ (.tail _ (.tail _ (.tail _ (.tail _ (.head _)))))) (g := 1) (by kernel_rfl) (by kernel_rfl) Tryz.underlying60
  exact ⟨_, (hB.cell (World.block_lt_of_cell? W _ h1)).trans h1, .inr ⟨te, pe, rfl⟩⟩
theorem Tab.rang {w : World} (h : Tab w) : ∃ ev, w.cell? ⟨2, 0, none⟩ = some ev ∧ (ev = .nilIface ∨ ∃ te pe, ev = .iface te pe) := by
  obtain ⟨W, ⟨_, hM⟩, hB⟩ := h
  rw [MakeChecks.laidMetH_plain _ _ _ (by kernel_rfl)] at hM
  obtain ⟨te, pe, h1⟩ := cell_iface hM (.tail _ (.tail _ (.tail _ (.tail _ (.head _))))) (g := 2) (by kernel_rfl) (by kernel_rfl) Tryz.underlying60
  exact ⟨_, (hB.cell (World.block_lt_of_cell? W _ h1)).trans h1, .inr ⟨te, pe, rfl⟩⟩
end Go.Proofs.YtfaakdokcldnkaaGreatDoor.Dr
