/- What the evaluator asks of this program: closed facts; no condition. -/
import Derived.Test.YtdkfcihbiikneaaGreatDoorSums
import GoSem.Extern.Table
namespace Go.Ev
set_option maxRecDepth 1000000
theorem ph_mixed : Pg.follows .mixedOrders = true := by kernel_rfl
theorem ph_names : (Pg.funcs.toList.all fun fn => !(fn.name == "runtime.NumGoroutine")) = true := by kernel_rfl
theorem e93 : Extern.find Go.Proofs.Tryz.f93 = some (Extern.AbiNoEscape.same) := by kernel_rfl
theorem n93 : (Extern.findNext Go.Proofs.Tryz.f93).isNone = true := by kernel_rfl
theorem g93 : Pg.funcs[93]? = some Go.Proofs.Tryz.f93 := by kernel_rfl
theorem e461 : Extern.find Go.Proofs.Tryz.f461 = some (Extern.BytealgIndexByte.indexByte) := by kernel_rfl
theorem n461 : (Extern.findNext Go.Proofs.Tryz.f461).isNone = true := by kernel_rfl
theorem g461 : Pg.funcs[461]? = some Go.Proofs.Tryz.f461 := by kernel_rfl
theorem e606 : Extern.find Go.Proofs.Tryz.f606 = some (Extern.BytealgIndexByte.indexByte) := by kernel_rfl
theorem n606 : (Extern.findNext Go.Proofs.Tryz.f606).isNone = true := by kernel_rfl
theorem g606 : Pg.funcs[606]? = some Go.Proofs.Tryz.f606 := by kernel_rfl
theorem e601 : Extern.find Go.Proofs.Tryz.f601 = some (Extern.Race.marked .acquire) := by kernel_rfl
theorem n601 : (Extern.findNext Go.Proofs.Tryz.f601).isNone = true := by kernel_rfl
theorem g601 : Pg.funcs[601]? = some Go.Proofs.Tryz.f601 := by kernel_rfl
theorem e598 : Extern.find Go.Proofs.Tryz.f598 = some (fun _ => do mark .disable; pure Extern.Race.none_) := by kernel_rfl
theorem n598 : (Extern.findNext Go.Proofs.Tryz.f598).isNone = true := by kernel_rfl
theorem g598 : Pg.funcs[598]? = some Go.Proofs.Tryz.f598 := by kernel_rfl
theorem e600 : Extern.find Go.Proofs.Tryz.f600 = some (fun _ => do mark .enable; pure Extern.Race.none_) := by kernel_rfl
theorem n600 : (Extern.findNext Go.Proofs.Tryz.f600).isNone = true := by kernel_rfl
theorem g600 : Pg.funcs[600]? = some Go.Proofs.Tryz.f600 := by kernel_rfl
theorem e603 : Extern.find Go.Proofs.Tryz.f603 = some (Extern.Race.marked .releaseMerge) := by kernel_rfl
theorem n603 : (Extern.findNext Go.Proofs.Tryz.f603).isNone = true := by kernel_rfl
theorem g603 : Pg.funcs[603]? = some Go.Proofs.Tryz.f603 := by kernel_rfl
theorem e604 : Extern.find Go.Proofs.Tryz.f604 = some (Extern.Atomic.update (Op.intArith .add) .i32 true) := by kernel_rfl
theorem n604 : (Extern.findNext Go.Proofs.Tryz.f604).isNone = true := by kernel_rfl
theorem g604 : Pg.funcs[604]? = some Go.Proofs.Tryz.f604 := by kernel_rfl
theorem e559 : Extern.find Go.Proofs.Tryz.f559 = some (Extern.Atomic.update (Op.intArith .add) .i64 true) := by kernel_rfl
theorem n559 : (Extern.findNext Go.Proofs.Tryz.f559).isNone = true := by kernel_rfl
theorem g559 : Pg.funcs[559]? = some Go.Proofs.Tryz.f559 := by kernel_rfl
theorem e599 : Extern.find Go.Proofs.Tryz.f599 = some (Extern.Atomic.casT (.int .i32)) := by kernel_rfl
theorem n599 : (Extern.findNext Go.Proofs.Tryz.f599).isNone = true := by kernel_rfl
theorem g599 : Pg.funcs[599]? = some Go.Proofs.Tryz.f599 := by kernel_rfl
theorem e455 : Extern.find Go.Proofs.Tryz.f455 = some (Extern.Atomic.loadT (.int .u32)) := by kernel_rfl
theorem n455 : (Extern.findNext Go.Proofs.Tryz.f455).isNone = true := by kernel_rfl
theorem g455 : Pg.funcs[455]? = some Go.Proofs.Tryz.f455 := by kernel_rfl
theorem e538 : Extern.find Go.Proofs.Tryz.f538 = some (Extern.Atomic.storeT) := by kernel_rfl
theorem n538 : (Extern.findNext Go.Proofs.Tryz.f538).isNone = true := by kernel_rfl
theorem g538 : Pg.funcs[538]? = some Go.Proofs.Tryz.f538 := by kernel_rfl
theorem xlook_mem {f : FuncId} {k : XK} : ∀ {l : List (Nat × XK)}, xlook f l = some k → (f, k) ∈ l
  | [], h => by cases h
  | p :: l, h => by
    have h' : (Bool.rec (xlook f l) (some p.2) (Nat.beq p.1 f) : Option XK) = some k := h
    cases hb : Nat.beq p.1 f with
    | true => rw [hb] at h'; cases h'; exact List.mem_cons.2 (.inl (by rw [← Nat.eq_of_beq_eq_true hb]))
    | false => rw [hb] at h'; exact List.mem_cons_of_mem _ (xlook_mem h')
theorem ph : PH Pg xk where
  mixed := ph_mixed
  name := fun f fn h => by
    have := List.all_eq_true.1 ph_names fn (Array.mem_toList_iff.2 (Array.mem_of_getElem? h))
    simpa using this
  ext := fun f fn k h _ hx => by
    have hm := xlook_mem hx
    simp only [xks, List.mem_cons, Prod.mk.injEq, List.not_mem_nil, or_false] at hm
    rcases hm with ⟨rfl, rfl⟩ | ⟨rfl, rfl⟩ | ⟨rfl, rfl⟩ | ⟨rfl, rfl⟩ | ⟨rfl, rfl⟩ | ⟨rfl, rfl⟩ | ⟨rfl, rfl⟩ | ⟨rfl, rfl⟩ | ⟨rfl, rfl⟩ | ⟨rfl, rfl⟩ | ⟨rfl, rfl⟩ | ⟨rfl, rfl⟩
    · rw [g93] at h; cases h; exact ⟨Option.isNone_iff_eq_none.1 n93, _, e93, rfl⟩
    · rw [g461] at h; cases h; exact ⟨Option.isNone_iff_eq_none.1 n461, _, e461, rfl⟩
    · rw [g606] at h; cases h; exact ⟨Option.isNone_iff_eq_none.1 n606, _, e606, rfl⟩
    · rw [g601] at h; cases h; exact ⟨Option.isNone_iff_eq_none.1 n601, _, e601, _, rfl⟩
    · rw [g598] at h; cases h; exact ⟨Option.isNone_iff_eq_none.1 n598, _, e598, fun _ _ => rfl⟩
    · rw [g600] at h; cases h; exact ⟨Option.isNone_iff_eq_none.1 n600, _, e600, fun _ _ => rfl⟩
    · rw [g603] at h; cases h; exact ⟨Option.isNone_iff_eq_none.1 n603, _, e603, _, rfl⟩
    · rw [g604] at h; cases h; exact ⟨Option.isNone_iff_eq_none.1 n604, _, e604, rfl⟩
    · rw [g559] at h; cases h; exact ⟨Option.isNone_iff_eq_none.1 n559, _, e559, rfl⟩
    · rw [g599] at h; cases h; exact ⟨Option.isNone_iff_eq_none.1 n599, _, e599, rfl⟩
    · rw [g455] at h; cases h; exact ⟨Option.isNone_iff_eq_none.1 n455, _, e455, rfl⟩
    · rw [g538] at h; cases h; exact ⟨Option.isNone_iff_eq_none.1 n538, _, e538, rfl⟩
end Go.Ev
