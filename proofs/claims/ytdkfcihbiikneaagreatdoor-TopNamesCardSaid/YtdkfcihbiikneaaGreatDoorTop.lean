/- TopNames: called in whatever memory that has the package's variables as they are laid, it returns true, and what was there is as it was. Conditions: the row's own (the listed variables read as laid). -/
import Derived.Test.YtdkfcihbiikneaaGreatDoorRows
import Derived.Test.YtdkfcihbiikneaaGreatDoorValid
import Derived.ProofKit
import Derived.LaidMore
import Derived.OpenShut
import Derived.Stop.Joined
import Derived.LaidByTextLater
import Derived.LaidOnce
import Derived.Test.YtdkfcihbiikneaaGreatDoorClosed
namespace Go.Proofs.YtdkfcihbiikneaaGreatDoor
open Go.ChangeShapes Go.WideShapes Go.ChangeAt Go.WideMaps Go.WideElems Go.RowKit Go.Ev
set_option maxRecDepth 1000000

theorem own : ownKnob Tryz.prog.godebug = none := by kernel_rfl
theorem laid_plain : (Rows.topNamesRow.laid.all fun x => x.2.handleName?.isNone) = true := by kernel_rfl

/-- the variables' blocks are there -/
noncomputable def rowAtStart (g : Nat) : Bool := (((begin Tryz.prog (fun _ _ => 0) default).world.heap[g]?).bind Obj.row?).isSome
theorem rows_at_start : ((List.range 7).all rowAtStart) = true := by kernel_rfl
theorem globals_size : Tryz.prog.globals.size = 7 := by kernel_rfl
theorem cells_at {W : World} (h : W.ShapedOpen Tryz.prog) (g : Nat) (hg : g < 7) : ∃ c el fz, W.heap[g]? = some (.cells c el fz) := by
  have h1 : rowAtStart g = true := List.all_eq_true.1 rows_at_start g (List.mem_range.2 hg)
  unfold rowAtStart at h1
  rw [Option.isSome_iff_exists] at h1
  obtain ⟨⟨z, t⟩, hz⟩ := h1
  obtain ⟨cs, hcs, _⟩ := h.1 g z t (by rw [globals_size]; exact hg) hz
  exact ⟨cs, t, _, hcs⟩

theorem n0 : Tryz.prog.globalNamed "internal/strconv.uint64pow10" = some 0 := by kernel_rfl
theorem n1 : Tryz.prog.globalNamed "elenchus/oper.types" = some 1 := by kernel_rfl
theorem t0 : (Tryz.prog.globals[0]?).map (·.type) = some 579 := by kernel_rfl
theorem t1 : (Tryz.prog.globals[1]?).map (·.type) = some 593 := by kernel_rfl

/-- the variables, as the evaluator has them -/
theorem start_ok {W : World} (hs : W.ShapedOpen Tryz.prog) (hl : laidMet Tryz.prog Rows.topNamesRow.laid W) : ∀ g b, sTop.pre[g]? = some b → GlAt W g b := by
  have bare : ∀ g, g < 7 → GlAt W g (cZ .gl none []) := fun g hg => by
    obtain ⟨c, el, fz, h⟩ := cells_at hs g hg
    exact GlAt.bare h
  intro g b hb
  match g, hb with
  | 0, hb => cases hb; exact GlAt.of_laid hl (i := 2) rfl n0 t0 Tryz.underlying579 (by kernel_rfl) (.inl ⟨_, Tryz.underlying89⟩) (by kernel_rfl)
  | 1, hb => cases hb; exact GlAt.of_laid hl (i := 5) rfl n1 t1 Tryz.underlying593 (by kernel_rfl) (.inr Tryz.underlying9) (by kernel_rfl)
  | 2, hb => cases hb; exact bare 2 (by decide)
  | 3, hb => cases hb; exact bare 3 (by decide)
  | 4, hb => cases hb; exact bare 4 (by decide)
  | 5, hb => cases hb; exact bare 5 (by decide)
  | 6, hb => cases hb; exact bare 6 (by decide)
  | g + 7, hb => cases hb

theorem kept_grown {W W' : World} (h : Ev.Grown W W') (may : MemPlace → Prop) : W.keptBut W' may := by
  obtain ⟨h1, _, h3, h4⟩ := h
  refine ⟨h3, h4, fun i hi => ?_⟩
  rw [h1 i hi]
  cases W.heap[i]? with
  | none => trivial
  | some o => cases o <;> first | exact ⟨rfl, rfl, rfl, fun _ _ => rfl⟩ | exact .inr ⟨rfl, rfl⟩ | rfl

/-- THE WALK: in any memory that has the variables -/
theorem walk {W : World} (hs : W.ShapedOpen Tryz.prog) (hl : laidMet Tryz.prog Rows.topNamesRow.laid W) : Calls Tryz.prog 3 #[] W fun e W' => e = .returned (.bool true) ∧ Ev.Grown W W' := by
  refine (Sm.closed v_sTop rfl (by kernel_rfl) (start_ok hs hl)).mono fun e W' h => ?_
  obtain ⟨X, ρ', rfl, hX, hg⟩ := h
  have hX' : X = .bool true := by
    have : VR ρ' (.bool true) X := hX
    simpa only [VR] using this
  subst hX'
  exact ⟨rfl, hg⟩

theorem fin_ {H : Type} {enc : TypeId × Value → H} {W W' : World} (hg : Ev.Grown W W') (hw : DataW.Whole enc Tryz.prog Tryz.f3.params.toList Rows.topNamesSpec.vars false W #[].toList [] [] []) :
    Rows.topNamesSpec.post enc Tryz.prog Tryz.f3 false true false false W #[] (.bool true) W' :=
  ⟨[], [], [], [], [], [], hw, trodAll_mk1 (shut_bool Tryz.underlying4 true), by rw [Tryz.params3]; exact rfl, rfl, kept_grown hg _, fun h => by cases h⟩

theorem door_met (os : Os) (args : Array Value) : laidMetH Tryz.prog Rows.topNamesRow.laid ((World.doorLaid Tryz.prog 67 os).forCall (fun _ _ => 0) ⟨#[], args, []⟩).memory :=
  laidMetH_of_parts3 (fuel := 8) (laidMet_of_run' 8 (by kernel_rfl) (by kernel_rfl)) (by kernel_rfl) (by kernel_rfl)

theorem witness (os : Os) (H : Type) (enc : TypeId × Value → H) : ∃ (w : World) (tape : Tape) (i : Input), w.os = os ∧ (w.forCall tape i).Shaped Tryz.checked.prog ∧ i.vars = [] ∧ Input.okWide Tryz.checked.prog (w.forCall tape i) .any w.heap.size 3 i ∧
    ((Rows.topNamesSpec.pre enc Tryz.checked.prog Tryz.f3 [] false (w.forCall tape i).memory i.args ∧ laidMetH Tryz.prog Rows.topNamesRow.laid (w.forCall tape i).memory) ∧ sizedMet enc Tryz.checked.prog Tryz.f3 (OpenSpec.ofChange Rows.topNamesSpec) false (w.forCall tape i).memory i.args) ∧
    ({} : Assume).holds Tryz.checked.prog (lone (Frame.enter Tryz.checked.prog 3 i.args .normal) [] (w.forCall tape i)) :=
  ChangeSpec.witness_shaped (enc := enc) (C := Tryz.checked) (os := os) (X := fun w _ => laidMetH Tryz.prog Rows.topNamesRow.laid w) false (World.doorLaid Tryz.prog 67 os) #[] 8 rfl (World.shaped_of_RefB (by kernel_rfl) (by kernel_rfl)) (by kernel_rfl) (by kernel_rfl) (by kernel_rfl) (door_met os _)

theorem lifted (os : Os) (started : os.Started) (H : Type) (enc : TypeId × Value → H) :
    ReturnsInHanded {} Tryz.checked os 3 .any (fun w args => (Rows.topNamesSpec.pre enc Tryz.prog Tryz.f3 [] false w args ∧ laidMetH Tryz.prog Rows.topNamesRow.laid w) ∧ sizedMet enc Tryz.prog Tryz.f3 (OpenSpec.ofChange Rows.topNamesSpec) false w args)
      (Rows.topNamesSpec.post enc Tryz.prog Tryz.f3 false true false false) := by
  refine returnsInHanded_of_calls own started (by kernel_rfl) (witness os H enc) ?_
  intro w tape i _ hsh _ _ hpre _
  obtain ⟨⟨⟨ds, gs, before, hw, _⟩, hl⟩, _⟩ := hpre
  have hl' : laidMet Tryz.prog Rows.topNamesRow.laid (w.forCall tape i) := by
    rw [MakeChecks.laidMetH_plain _ _ _ laid_plain] at hl
    exact laidMet.of_heap (w := (w.forCall tape i).memory) (w' := w.forCall tape i) rfl hl
  obtain ⟨p, q, hA, hV, rfl, hfz, hnd⟩ := hw
  have hargs : i.args = #[] := by
    rw [Tryz.params3] at hA
    cases hx : i.args.toList with
    | nil => exact Array.toList_inj.1 hx
    | cons v vs => rw [hx] at hA; cases ds <;> exact hA.elim
  have hds : ds = [] ∧ p = [] := by
    rw [Tryz.params3, hargs] at hA
    cases ds with
    | nil => exact ⟨rfl, hA⟩
    | cons d ds => exact hA.elim
  obtain ⟨rfl, rfl⟩ := hds
  obtain ⟨rfl, rfl⟩ := trodVars_none hV
  have hwh : DataW.Whole enc Tryz.prog Tryz.f3.params.toList Rows.topNamesSpec.vars false (w.forCall tape i) #[].toList [] [] [] := by
    rw [hargs] at hA
    exact DataW.Whole.of_heap (w' := w.forCall tape i) (by rfl) ⟨[], [], hA, hV, rfl, hfz, hnd⟩
  rw [hargs]
  refine (walk hsh hl').mono fun e W' h => ?_
  obtain ⟨rfl, hg⟩ := h
  exact ChangeSpec.post_blind (fin_ hg hwh)

theorem fnamed : Tryz.pinned.checked.prog.funcNamed Rows.topNamesRow.func = some 3 := by kernel_rfl
theorem inst : Tryz.f3.isInstance Tryz.pinned.checked.prog Rows.topNamesRow.origin Rows.topNamesRow.targs := of_decide_eq_true (by kernel_rfl)
theorem wrap : Tryz.f3.isWrapper Tryz.pinned.checked.prog Rows.topNamesRow.wrapper Rows.topNamesRow.mainSum := by
  unfold Func.isWrapper; first | (rw [if_pos (by decide +kernel)]; kernel_rfl) | (rw [if_neg (by decide +kernel)]; exact ⟨rfl, rfl⟩)
theorem topNames_holds : Rows.TopNamesSaid :=
  OpenClaim.holds_of_wide 3 Tryz.f3 rfl rfl rfl rfl rfl rfl rfl ⟨rfl, rfl, rfl, rfl, rfl⟩ rfl rfl rfl rfl rfl fnamed Tryz.func3 closed inst wrap
    (fun os started H enc _ => lifted os started H enc)
end Go.Proofs.YtdkfcihbiikneaaGreatDoor
