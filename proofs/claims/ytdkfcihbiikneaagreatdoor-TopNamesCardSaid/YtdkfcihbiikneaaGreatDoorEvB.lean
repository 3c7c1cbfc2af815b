/- The evaluator: operations that read, that make blocks, that write are sound. It holds without any condition on the inputs. -/
import Derived.Test.YtdkfcihbiikneaaGreatDoorEvA
import Derived.Laws.Cells
import Derived.Laws.StructEq
import Derived.Lib.UnsafeStr
import Derived.Laws.BytesString
/- What reads: cells, and what is held against each other. -/
namespace Go.Ev
section
variable {P : Program} {ρ : Ro} {st : St} {e : Env} {a : Act} {w : World}

theorem cellsAt_eq {β : Type} {id : Nat} {k : Fz → Option TypeId → Nat → Tr V → Option β} {b : β} (h : cellsAt st id k = some b) :
    ∃ z e n t, st.h.get id = some (.cells z e n t) ∧ k z e n t = some b := by
  unfold cellsAt at h
  rw [obind_eq] at h
  obtain ⟨x, hx, h⟩ := h
  cases x <;> first | (cases h; done) | skip
  exact ⟨_, _, _, _, hx, h⟩
theorem mapAt_eq {β : Type} {id : Nat} {k : Es → Nat → Option β} {b : β} (h : mapAt st id k = some b) :
    ∃ es c, st.h.get id = some (.map es c) ∧ k es c = some b := by
  unfold mapAt at h
  rw [obind_eq] at h
  obtain ⟨x, hx, h⟩ := h
  cases x <;> first | (cases h; done) | skip
  exact ⟨_, _, hx, h⟩

/-- a row of cells, where it lies -/
def COk (ρ : Ro) (o n : Nat) (t : Tr V) (c : Array Value) : Prop := ∀ i v, i < n → t.get i = some v → v.many = false ∧ ∃ x, c[o + i]? = some x ∧ VR ρ v x

theorem RH.block {h : Array Obj} (hr : RH P ρ st h) {id : Nat} {p : Pl} {b : B} (hp : ρ id = some (some p)) (hb : st.h.get id = some b) : ∃ o, h[p.r]? = some o ∧ BR P ρ p b o := by
  obtain ⟨_, b', o, h1, h2, h3⟩ := hr.at' id p hp
  rw [hb] at h1
  cases h1
  exact ⟨o, h2, h3⟩
theorem RH.cells {h : Array Obj} (hr : RH P ρ st h) {id : Nat} {p : Pl} {z : Fz} {e : Option TypeId} {n : Nat} {t : Tr V} (hp : ρ id = some (some p)) (hb : st.h.get id = some (.cells z e n t)) :
    ∃ c el fz, h[p.r]? = some (.cells c el fz) ∧ p.c = true ∧ c.size = p.n ∧ p.o + n ≤ p.n ∧ COk ρ p.o n t c ∧ FzOk z fz c.size ∧ (∀ u, e = some u → el = u ∧ p.o = 0) := by
  obtain ⟨o, h1, h2⟩ := hr.block hp hb
  obtain ⟨h3, c, el, fz, rfl, h4, h5, h6, h7, h8⟩ := h2
  exact ⟨c, el, fz, h1, h3, h4, h5, h6, h7, h8⟩
theorem RH.not_gone {h : Array Obj} (hr : RH P ρ st h) {id : Nat} {b : B} (hb : st.h.get id = some b) : ρ id ≠ some none := fun hn => by
  rw [(hr.gone id hn).2] at hb
  cases hb

theorem VR.ptr_at {h : Array Obj} {id off : Nat} {X : Value} {b : B} (hv : VR ρ (.ptr id off) X) (hr : RH P ρ st h) (hb : st.h.get id = some b) :
    ∃ p, ρ id = some (some p) ∧ X = .pointer (some ⟨p.r, p.o + off, none⟩) := by
  simp only [VR] at hv
  rcases hv with h1 | ⟨h1, _⟩
  · exact h1
  · exact absurd h1 (hr.not_gone hb)
theorem VR.slice_at {h : Array Obj} {id off n sz : Nat} {cap : Option Nat} {X : Value} {b : B} (hv : VR ρ (.slice id off n cap sz) X) (hr : RH P ρ st h) (hb : st.h.get id = some b) :
    ∃ p A c, ρ id = some (some p) ∧ X = .slice (some A) n c ∧ n ≤ c ∧ (∀ k, cap = some k → c = k) ∧ (0 < c → A = ⟨p.r, p.o + off, none⟩) ∧ p.o + off + c * sz ≤ p.n := by
  simp only [VR] at hv
  obtain ⟨A, c, h1, h2, h3, h4⟩ := hv
  rcases h4 with ⟨p, h5, h6, h7⟩ | h4
  · exact ⟨p, A, c, h5, h1, h2, h3, h6, h7⟩
  · exact absurd h4 (hr.not_gone hb)
theorem VR.map_at {h : Array Obj} {id : Nat} {X : Value} {b : B} (hv : VR ρ (.map id) X) (hr : RH P ρ st h) (hb : st.h.get id = some b) :
    ∃ p, ρ id = some (some p) ∧ X = .map (some p.r) := by
  simp only [VR] at hv
  rcases hv with h1 | ⟨h1, _⟩
  · exact h1
  · exact absurd h1 (hr.not_gone hb)

theorem World.cell_at {r i : Nat} {c : Array Value} {el : TypeId} {fz : Nat × Nat} (h : w.heap[r]? = some (.cells c el fz)) : w.cell? ⟨r, i, none⟩ = c[i]? := by simp [World.cell?, h]

/-- so many cells from a place on -/
theorem COk.row {o n m off : Nat} {t : Tr V} {c : Array Value} {l : List V} (h : COk ρ o n t c) (hl : t.row m off = some l) (hn : off + m ≤ n) :
    ∃ xs : List Value, VRs ρ l xs ∧ xs.length = m ∧ (∀ j x, xs[j]? = some x → c[o + off + j]? = some x) ∧ allOne l = true := by
  obtain ⟨h1, h2⟩ := Tr.row_eq hl
  have h3 : ∀ j, j < m → ∃ x, c[o + off + j]? = some x := by
    intro j hj
    have := h2 j hj
    have hj' : j < l.length := by omega
    rw [List.getElem?_eq_getElem hj'] at this
    obtain ⟨_, x, hx, _⟩ := h (off + j) _ (by omega) this
    exact ⟨x, by rw [Nat.add_assoc]; exact hx⟩
  have hlen : m = 0 ∨ o + off + m ≤ c.size := by
    rcases Nat.eq_zero_or_pos m with hm | hm
    · exact .inl hm
    · obtain ⟨x, hx⟩ := h3 (m - 1) (by omega)
      have := (Array.getElem?_eq_some_iff.1 hx).1
      exact .inr (by omega)
  have hxl : ((c.toList.drop (o + off)).take m).length = m := by
    simp only [List.length_take, List.length_drop, Array.length_toList]
    omega
  have hg : ∀ j, j < m → ((c.toList.drop (o + off)).take m)[j]? = c[o + off + j]? := by
    intro j hj
    rw [List.getElem?_take, if_pos hj, List.getElem?_drop, Array.getElem?_toList]
  refine ⟨(c.toList.drop (o + off)).take m, VRs.of (by omega) fun i v hv => ?_, hxl, fun j x hx => ?_, ?_⟩
  · have hi : i < m := by have := (List.getElem?_eq_some_iff.1 hv).1; omega
    have h4 := h2 i hi
    rw [hv] at h4
    obtain ⟨_, x, hx, hr⟩ := h (off + i) v (by omega) h4
    exact ⟨x, by rw [hg i hi, Nat.add_assoc]; exact hx, hr⟩
  · have hj : j < m := by have := (List.getElem?_eq_some_iff.1 hx).1; omega
    rw [← hg j hj]
    exact hx
  · have : ∀ (l : List V), (∀ (i : Nat) (v : V), l[i]? = some v → v.many = false) → allOne l = true := by
      intro l
      induction l with
      | nil => intro _; rfl
      | cons v l ih =>
        intro hv
        rw [allOne_cons, hv 0 v rfl, ih fun i u hu => hv (i + 1) u (by simpa using hu)]
        rfl
    refine this l fun i v hv => ?_
    have hi : i < m := by have := (List.getElem?_eq_some_iff.1 hv).1; omega
    have h4 := h2 i hi
    rw [hv] at h4
    exact (h (off + i) v (by omega) h4).1

theorem r_loadCells {r o : Nat} {c : Array Value} {el : TypeId} {fz : Nat × Nat} {xs : List Value} (h : w.heap[r]? = some (.cells c el fz)) (hx : ∀ j x, xs[j]? = some x → c[o + j]? = some x) :
    (loadCells ⟨r, o, none⟩ xs.length).run P w = .ok xs.toArray w :=
  run_loadCells_list w _ _ fun j v hv => by rw [Addr.add_off, World.cell_at h]; exact hx j v hv

theorem load_sound {t : TypeId} {id off : Nat} {v : V} {X : Value} (hr : RH P ρ st w.heap) (hx : VR ρ (.ptr id off) X) (h : Ev.load P st t id off = some v) :
    ∃ Z, (Instr.loadAt t X).run P w = .ok Z w ∧ VR ρ v Z := by
  unfold Ev.load at h
  rw [obind_eq] at h
  obtain ⟨s, hs, h⟩ := h
  have hk := r_agg hs w
  cases s with
  | one =>
    obtain ⟨z, el, n, t', hb, h⟩ := cellsAt_eq h
    obtain ⟨h1, h2⟩ := ok_eq.1 h
    obtain ⟨p, hp, rfl⟩ := hx.ptr_at hr hb
    obtain ⟨c, el', fz, hh, _, _, _, hc, _⟩ := hr.cells hp hb
    obtain ⟨_, x, hx, hv⟩ := hc off v (by simpa [Nat.blt_eq] using h1) h2
    exact ⟨x, by simp [Instr.loadAt, Instr.sureAddr, loadVar, hk.1, World.cell_at hh, hx], hv⟩
  | many s =>
    obtain ⟨z, el, n, t', hb, h⟩ := cellsAt_eq h
    obtain ⟨h1, h2⟩ := ok_eq.1 h
    rw [obind_eq] at h2
    obtain ⟨l, hl, h2⟩ := h2
    cases h2
    obtain ⟨p, hp, rfl⟩ := hx.ptr_at hr hb
    obtain ⟨c, el', fz, hh, _, _, _, hc, _⟩ := hr.cells hp hb
    obtain ⟨xs, h3, h4, h5, _⟩ := hc.row hl (Nat.le_of_ble_eq_true h1)
    subst h4
    exact ⟨.agg xs.toArray, by simp [Instr.loadAt, Instr.sureAddr, loadVar, hk.1, hk.2 _ rfl, r_loadCells hh h5], by simp only [VR]; exact ⟨_, rfl, h3⟩⟩

/-! ### the same? -/
theorem FzOk.free_frozen {r o : Nat} {c : Array Value} {el : TypeId} (h : w.heap[r]? = some (.cells c el (0, 0))) : w.frozen? ⟨r, o, none⟩ = false := by simp [World.frozen?, h]

theorem eqPtr_sound {i j o o' : Nat} {b : Bool} {X Y : Value} (hr : RH P ρ st w.heap) (hx : VR ρ (.ptr i o) X) (hy : VR ρ (.ptr j o') Y) (h : eqPtr st i o j o' = some b) :
    ∃ A B, X = .pointer (some A) ∧ Y = .pointer (some B) ∧ (sameAddr A B).run P w = .ok b w := by
  unfold eqPtr at h
  rw [sel_eq] at h
  split at h
  · rename_i he
    obtain rfl := Nat.eq_of_beq_eq_true he
    obtain ⟨z, el, n, t, hb, h⟩ := cellsAt_eq h
    cases h
    obtain ⟨p, hp, rfl⟩ := hx.ptr_at hr hb
    obtain ⟨q, hq, rfl⟩ := hy.ptr_at hr hb
    rw [hp] at hq
    cases hq
    refine ⟨_, _, rfl, rfl, ?_⟩
    simp only [sameAddr, beq_self_eq_true, if_true, Sem.run_pure]
    congr 1
    rw [Bool.eq_iff_iff, beq_iff_eq]
    simp
  · rename_i he
    obtain ⟨z, el, n, t, hb, h⟩ := cellsAt_eq h
    obtain ⟨h1, h⟩ := ok_eq.1 h
    obtain ⟨z', el', n', t', hb', h⟩ := cellsAt_eq h
    obtain ⟨h2, h⟩ := ok_eq.1 h
    cases h
    cases z <;> simp only [isFree, Bool.false_eq_true] at h1
    cases z' <;> simp only [isFree, Bool.false_eq_true] at h2
    obtain ⟨p, hp, rfl⟩ := hx.ptr_at hr hb
    obtain ⟨q, hq, rfl⟩ := hy.ptr_at hr hb'
    obtain ⟨c, e1, fz, hh, _, _, _, _, hf, _⟩ := hr.cells hp hb
    obtain ⟨c', e1', fz', hh', _, _, _, _, hf', _⟩ := hr.cells hq hb'
    simp only [FzOk] at hf hf'
    subst hf
    subst hf'
    have hne : p.r ≠ q.r := fun e' => by
      have := hr.inj i j p q hp hq e'
      subst this
      simp at he
    refine ⟨_, _, rfl, rfl, ?_⟩
    have hne' : (p.r == q.r) = false := by simpa using hne
    simp [sameAddr, hne', FzOk.free_frozen hh, FzOk.free_frozen hh', noView, viewAt, World.shape?, hh, hh', mayBeOne, stringish]

def Ck.fits (c : Ck) (d : TypeDesc) : Prop := match c, d with
  | .bool, .bool => True
  | .int, .int _ => True
  | .str, .string => True
  | .iface, .interface _ => True
  | .slice, .slice _ => True
  | .map, .map _ _ => True
  | .func, .func _ _ _ => True
  | _, _ => False

theorem ckEq_iff {a b : Ck} : ckEq a b = true ↔ a = b := by cases a <;> cases b <;> simp [ckEq]

theorem eqOne_sound {t : TypeId} {x y : V} {X Y : Value} {c : Ck} {b : Bool} {D : Nat} (hr : RH P ρ st w.heap) (hx : VR ρ x X) (hy : VR ρ y Y)
    (hk : eqK P t = some (.one c)) (hc : ckOf x = some c) (h : eqOne st x y = some b) : (Op.equalIn (D + 1) t X Y).run P w = .ok b w := by
  have hu : (∃ d, P.underlying t = some d ∧ c.fits d) ∨ (c = .ptr ∧ ∃ e s, P.underlying t = some (.pointer e) ∧ szT P e = some s ∧ s ≠ 0) := by
    unfold eqK at hk
    split at hk
    · rw [sel_eq] at hk; split at hk <;> cases hk
    · rw [obind_eq] at hk; obtain ⟨_, _, hk⟩ := hk; cases hk
    · rename_i e hu
      rw [obind_eq] at hk
      obtain ⟨s, hs, hk⟩ := hk
      obtain ⟨h1, hk⟩ := ok_eq.1 hk
      cases hk
      exact .inr ⟨rfl, e, s, hu, hs, fun e0 => by subst e0; simp at h1⟩
    all_goals first | (rename_i hu; cases hk; exact .inl ⟨_, hu, trivial⟩) | (cases hk)
  cases x <;> first | (cases hc; done) | skip
  case bool p =>
    cases hc
    rcases hu with ⟨d, hu, hf⟩ | ⟨h0, _⟩
    · cases d <;> simp only [Ck.fits] at hf
      obtain ⟨q, rfl, h1⟩ := vbool_eq h
      simp only [VR] at hx hy
      subst hx
      subst hy
      cases h1
      simp only [Op.equalIn, Sem.run_bind, r_under hu, Result.andThen_ok, Sem.run_pure]
      cases p <;> cases q <;> rfl
    · cases h0
  case int k p =>
    cases hc
    rcases hu with ⟨d, hu, hf⟩ | ⟨h0, _⟩
    · cases d <;> simp only [Ck.fits] at hf
      obtain ⟨k', q, rfl, h1⟩ := vint_eq h
      obtain ⟨h2, h1⟩ := ok_eq.1 h1
      cases h1
      simp only [VR] at hx hy
      subst hx
      subst hy
      have : k = k' := by simpa using h2
      subst this
      simp [Op.equalIn, r_under hu, ieq_eq]
    · cases h0
  case str p =>
    cases hc
    rcases hu with ⟨d, hu, hf⟩ | ⟨h0, _⟩
    · cases d <;> simp only [Ck.fits] at hf
      cases y <;> first | (cases h; done) | skip
      simp only [eqOne] at h
      cases h
      simp only [VR] at hx hy
      obtain ⟨hs, rfl⟩ := hx
      obtain ⟨hs', rfl⟩ := hy
      simp [Op.equalIn, r_under hu, natsEq_bytes hs hs']
    · cases h0
  case ptr i o =>
    cases hc
    rcases hu with ⟨d, hu, hf⟩ | ⟨_, e, s, hu, hs, hne⟩
    · cases d <;> simp only [Ck.fits] at hf
    · cases y <;> first | (cases h; done) | skip
      case nilp =>
        simp only [eqOne] at h
        cases h
        simp only [VR] at hx hy
        subst hy
        rcases hx with ⟨_, _, rfl⟩ | ⟨_, _, rfl⟩ <;> (simp only [Op.equalIn, Sem.run_bind, r_under hu, Result.andThen_ok]; rfl)
      case ptr j o' =>
        obtain ⟨A, B, rfl, rfl, h1⟩ := eqPtr_sound (P := P) hr hx hy h
        simp [Op.equalIn, r_under hu, r_size hs, hne, h1]
  case nilp =>
    cases hc
    rcases hu with ⟨d, hu, hf⟩ | ⟨_, e, s, hu, hs, hne⟩
    · cases d <;> simp only [Ck.fits] at hf
    · simp only [VR] at hx
      subst hx
      cases y <;> first | (cases h; done) | skip
      case nilp => cases h; simp only [VR] at hy; subst hy; (simp only [Op.equalIn, Sem.run_bind, r_under hu, Result.andThen_ok]; rfl)
      case ptr => cases h; simp only [VR] at hy; rcases hy with ⟨_, _, rfl⟩ | ⟨_, _, rfl⟩ <;> (simp only [Op.equalIn, Sem.run_bind, r_under hu, Result.andThen_ok]; rfl)
  case slice =>
    cases hc
    rcases hu with ⟨d, hu, hf⟩ | ⟨h0, _⟩
    · cases d <;> simp only [Ck.fits] at hf
      simp only [VR] at hx
      obtain ⟨_, _, rfl, _⟩ := hx
      cases y <;> first | (cases h; done) | skip
      cases h
      simp only [VR] at hy
      subst hy
      (simp only [Op.equalIn, Sem.run_bind, r_under hu, Result.andThen_ok]; rfl)
    · cases h0
  case nils =>
    cases hc
    rcases hu with ⟨d, hu, hf⟩ | ⟨h0, _⟩
    · cases d <;> simp only [Ck.fits] at hf
      simp only [VR] at hx
      subst hx
      cases y <;> first | (cases h; done) | skip
      case slice => cases h; simp only [VR] at hy; obtain ⟨_, _, rfl, _⟩ := hy; (simp only [Op.equalIn, Sem.run_bind, r_under hu, Result.andThen_ok]; rfl)
      case nils => cases h; simp only [VR] at hy; subst hy; (simp only [Op.equalIn, Sem.run_bind, r_under hu, Result.andThen_ok]; rfl)
    · cases h0
  case map =>
    cases hc
    rcases hu with ⟨d, hu, hf⟩ | ⟨h0, _⟩
    · cases d <;> simp only [Ck.fits] at hf
      cases y <;> first | (cases h; done) | skip
      cases h
      simp only [VR] at hx hy
      subst hy
      rcases hx with ⟨_, _, rfl⟩ | ⟨_, _, rfl⟩ <;> (simp only [Op.equalIn, Sem.run_bind, r_under hu, Result.andThen_ok]; rfl)
    · cases h0
  case nilm =>
    cases hc
    rcases hu with ⟨d, hu, hf⟩ | ⟨h0, _⟩
    · cases d <;> simp only [Ck.fits] at hf
      simp only [VR] at hx
      subst hx
      cases y <;> first | (cases h; done) | skip
      case map => cases h; simp only [VR] at hy; rcases hy with ⟨_, _, rfl⟩ | ⟨_, _, rfl⟩ <;> (simp only [Op.equalIn, Sem.run_bind, r_under hu, Result.andThen_ok]; rfl)
      case nilm => cases h; simp only [VR] at hy; subst hy; (simp only [Op.equalIn, Sem.run_bind, r_under hu, Result.andThen_ok]; rfl)
    · cases h0
  case func =>
    cases hc
    rcases hu with ⟨d, hu, hf⟩ | ⟨h0, _⟩
    · cases d <;> simp only [Ck.fits] at hf
      cases y <;> first | (cases h; done) | skip
      cases h
      simp only [VR] at hx hy
      subst hy
      obtain ⟨_, _, rfl, _⟩ := hx
      (simp only [Op.equalIn, Sem.run_bind, r_under hu, Result.andThen_ok]; rfl)
    · cases h0
  case nilf =>
    cases hc
    rcases hu with ⟨d, hu, hf⟩ | ⟨h0, _⟩
    · cases d <;> simp only [Ck.fits] at hf
      simp only [VR] at hx
      subst hx
      cases y <;> first | (cases h; done) | skip
      case func => cases h; simp only [VR] at hy; obtain ⟨_, _, rfl, _⟩ := hy; (simp only [Op.equalIn, Sem.run_bind, r_under hu, Result.andThen_ok]; rfl)
      case nilf => cases h; simp only [VR] at hy; subst hy; (simp only [Op.equalIn, Sem.run_bind, r_under hu, Result.andThen_ok]; rfl)
    · cases h0
  case iface =>
    cases hc
    rcases hu with ⟨d, hu, hf⟩ | ⟨h0, _⟩
    · cases d <;> simp only [Ck.fits] at hf
      cases y <;> first | (cases h; done) | skip
      cases h
      simp only [VR] at hx hy
      subst hy
      obtain ⟨_, rfl, _⟩ := hx
      (simp only [Op.equalIn, Sem.run_bind, r_under hu, Result.andThen_ok]; rfl)
    · cases h0
  case nili =>
    cases hc
    rcases hu with ⟨d, hu, hf⟩ | ⟨h0, _⟩
    · cases d <;> simp only [Ck.fits] at hf
      simp only [VR] at hx
      subst hx
      cases y <;> first | (cases h; done) | skip
      case iface => cases h; simp only [VR] at hy; obtain ⟨_, rfl, _⟩ := hy; (simp only [Op.equalIn, Sem.run_bind, r_under hu, Result.andThen_ok]; rfl)
      case nili => cases h; simp only [VR] at hy; subst hy; (simp only [Op.equalIn, Sem.run_bind, r_under hu, Result.andThen_ok]; rfl)
    · cases h0
end
end Go.Ev


/- What is held against each other, part by part; maps; conversions; lengths: all that reads. -/
namespace Go.Ev
section
variable {P : Program} {ρ : Ro} {st : St} {e : Env} {a : Act} {w : World}

theorem eqParts_cons (f : TypeId → V → V → Option Bool) (xs ys : List V) (p : Nat × TypeId) (l : List (Nat × TypeId)) :
    eqParts P f xs ys (p :: l) = obind (part P p.2 xs p.1) fun a => obind (part P p.2 ys p.1) fun b => obind (f p.2 a b) fun r => sel r (eqParts P f xs ys l) (some false) := rfl

/-- the parts' own law -/
def EqAt (P : Program) (ρ : Ro) (w : World) (D : Nat) (f : TypeId → V → V → Option Bool) : Prop :=
  ∀ t x y b X Y, f t x y = some b → VR ρ x X → VR ρ y Y → (Op.equalIn D t X Y).run P w = .ok b w

theorem eqFields_sound {D : Nat} {f : TypeId → V → V → Option Bool} {xs ys : List V} {XS YS : Array Value} (hf : EqAt P ρ w D f) (hx : VRs ρ xs XS.toList) (hy : VRs ρ ys YS.toList) :
    ∀ (fs : List Field) (b : Bool), eqParts P f xs ys (fs.filterMap fun f => if f.name ≠ "_" then some (f.offset, f.type) else none) = some b → (Op.eqFields D XS YS fs).run P w = .ok b w
  | [], b, h => by cases h; rfl
  | fd :: fs, b, h => by
    by_cases hn : fd.name ≠ "_"
    · rw [List.filterMap_cons_some (b := (fd.offset, fd.type)) (by rw [if_pos hn]), eqParts_cons, obind_eq] at h
      obtain ⟨u, hu, h⟩ := h
      rw [obind_eq] at h
      obtain ⟨v, hv, h⟩ := h
      rw [obind_eq] at h
      obtain ⟨r, hr, h⟩ := h
      obtain ⟨U, hU, hUr⟩ := part_sound hu hx
      obtain ⟨W, hW, hWr⟩ := part_sound hv hy
      have h1 := hf _ _ _ _ _ _ hr hUr hWr
      simp only [Op.eqFields, if_pos hn, Sem.run_bind, hU, hW, h1, Result.andThen_ok]
      cases r
      · cases h; rfl
      · exact eqFields_sound hf hx hy fs b h
    · rw [List.filterMap_cons_none (by rw [if_neg hn])] at h
      simp only [Op.eqFields, if_neg hn]
      exact eqFields_sound hf hx hy fs b h

theorem eqV_sound (hr : RH P ρ st w.heap) : ∀ (d D : Nat), d ≤ D → EqAt P ρ w D (eqV P st d)
  | 0, D, _ => fun t x y b X Y h _ _ => by cases h
  | d + 1, 0, h => by omega
  | d + 1, D + 1, hd => fun t x y b X Y h hx hy => by
    rw [show eqV P st (d + 1) t x y = obind (eqK P t) (eqBy P st (eqV P st d) x y) from rfl, obind_eq] at h
    obtain ⟨k, hk, h⟩ := h
    cases k with
    | one c =>
      simp only [eqBy] at h
      rw [obind_eq] at h
      obtain ⟨c', hc, h⟩ := h
      obtain ⟨h1, h2⟩ := ok_eq.1 h
      obtain rfl := ckEq_iff.1 h1
      exact eqOne_sound hr hx hy hk hc h2
    | parts l =>
      have ih := eqV_sound hr d D (by omega)
      simp only [eqBy] at h
      cases x <;> first | (cases h; done) | skip
      cases y <;> first | (cases h; done) | skip
      simp only at h
      simp only [VR] at hx hy
      obtain ⟨XS, rfl, hx⟩ := hx
      obtain ⟨YS, rfl, hy⟩ := hy
      unfold eqK at hk
      split at hk
      · rename_i fs hu
        rw [sel_eq] at hk
        split at hk
        · cases hk
        · rename_i hst
          cases hk
          have hf : P.fieldsOf t = fs := by unfold Program.fieldsOf; rw [hu]
          rw [run_equalIn_struct w D t XS YS (by rw [hf]; exact hu) (by simpa using hst), hf]
          exact eqFields_sound ih hx hy _ b h
      · rename_i n e hu
        rw [obind_eq] at hk
        obtain ⟨s, hs, hk⟩ := hk
        cases hk
        simp only [Op.equalIn, Sem.run_bind, r_under hu, Result.andThen_ok, r_size hs]
        simp only [Std.Legacy.Range.forIn_eq_forIn_range', Std.Legacy.Range.size]
        have e1 : (n - 0 + 1 - 1) / 1 = n := by simp
        rw [e1, ← List.range_eq_range']
        generalize List.range n = l at h
        clear e1
        induction l with
        | nil => cases h; rfl
        | cons i l ihl =>
          rw [List.map_cons, eqParts_cons, obind_eq] at h
          obtain ⟨u, hu', h⟩ := h
          rw [obind_eq] at h
          obtain ⟨v, hv, h⟩ := h
          rw [obind_eq] at h
          obtain ⟨r, hr', h⟩ := h
          obtain ⟨U, hU, hUr⟩ := part_sound hu' hx
          obtain ⟨W, hW, hWr⟩ := part_sound hv hy
          have h1 := ih _ _ _ _ _ _ hr' hUr hWr
          simp only at hU hW
          simp only [List.forIn_cons, Sem.run_bind, hU, hW, h1, Result.andThen_ok]
          cases r
          · cases h
            simp only [Bool.not_false, if_true, Sem.run_pure, Result.andThen_ok]
          · simp only [Bool.not_true, Bool.false_eq_true, if_false, Sem.run_pure, Result.andThen_ok]
            exact ihl h
      · rw [obind_eq] at hk
        obtain ⟨_, _, hk⟩ := hk
        obtain ⟨_, hk⟩ := ok_eq.1 hk
        cases hk
      all_goals cases hk

/-! ### maps -/
theorem keyParts_cons (f : TypeId → V → Bool) (xs : List V) (p : Nat × TypeId) (l : List (Nat × TypeId)) :
    keyParts P f xs (p :: l) = match part P p.2 xs p.1 with | some a => sel (f p.2 a) (keyParts P f xs l) false | none => false := rfl

theorem keyV_sound (em : Bool) : ∀ (d D : Nat), d ≤ D → ∀ t x X, keyV P d t x = true → VR ρ x X → (Instr.checkKey em D t X).run P w = .ok () w
  | 0, D, _ => fun t x X h _ => by cases h
  | d + 1, 0, h => by omega
  | d + 1, D + 1, hd => fun t x X h hx => by
    have ih := keyV_sound em d D (by omega)
    rw [show keyV P (d + 1) t x = match eqK P t with | some k => keyBy P (keyV P d) x k | none => false from rfl] at h
    split at h
    · rename_i k hk
      cases k with
      | one c =>
        have hu : ∃ d, P.underlying t = some d ∧ (∀ n e, d ≠ .array n e) ∧ (∀ f, d ≠ .struct f) ∧ (∀ m, d ≠ .interface m) := by
          unfold eqK at hk
          split at hk
          · rw [sel_eq] at hk; split at hk <;> cases hk
          · rw [obind_eq] at hk; obtain ⟨_, _, hk⟩ := hk; cases hk
          all_goals first
            | (cases hk; done)
            | (rename_i hu; cases hk; cases h; done)
            | (rename_i hu; exact ⟨_, hu, by simp, by simp, by simp⟩)
        obtain ⟨dd, hu, h1, h2, h3⟩ := hu
        simp only [Instr.checkKey, Sem.run_bind, r_under hu, Result.andThen_ok]
        cases dd <;> first | rfl | (exact absurd rfl (h1 _ _)) | (exact absurd rfl (h2 _)) | (exact absurd rfl (h3 _))
      | parts l =>
        simp only [keyBy] at h
        cases x <;> first | (cases h; done) | skip
        simp only at h
        simp only [VR] at hx
        obtain ⟨XS, rfl, hx⟩ := hx
        unfold eqK at hk
        split at hk
        · rename_i fs hu
          rw [sel_eq] at hk
          split at hk
          · cases hk
          · cases hk
            simp only [Instr.checkKey, Sem.run_bind, r_under hu, Result.andThen_ok]
            rw [← Array.forIn_toList]
            generalize fs.toList = fl at h
            induction fl with
            | nil => rfl
            | cons fd fl ihl =>
              by_cases hn : fd.name ≠ "_"
              · rw [List.filterMap_cons_some (b := (fd.offset, fd.type)) (by rw [if_pos hn]), keyParts_cons] at h
                split at h
                · rename_i u hu'
                  rw [sel_eq] at h
                  split at h
                  · rename_i hk'
                    obtain ⟨U, hU, hUr⟩ := part_sound hu' hx
                    have h1 := ih _ _ _ hk' hUr
                    simp only [List.forIn_cons, Sem.run_bind, if_pos hn, hU, h1, Result.andThen_ok, Sem.run_pure]
                    exact ihl h
                  · cases h
                · cases h
              · rw [List.filterMap_cons_none (by rw [if_neg hn])] at h
                simp only [List.forIn_cons, Sem.run_bind, if_neg hn, Result.andThen_ok, Sem.run_pure]
                exact ihl h
        · rename_i n e hu
          rw [obind_eq] at hk
          obtain ⟨s, hs, hk⟩ := hk
          cases hk
          simp only [Instr.checkKey, Sem.run_bind, r_under hu, Result.andThen_ok]
          simp only [Std.Legacy.Range.forIn_eq_forIn_range', Std.Legacy.Range.size]
          have e1 : (n - 0 + 1 - 1) / 1 = n := by simp
          rw [e1, ← List.range_eq_range']
          clear e1
          generalize List.range n = fl at h
          induction fl with
          | nil => rfl
          | cons i fl ihl =>
            rw [List.map_cons, keyParts_cons] at h
            split at h
            · rename_i u hu'
              rw [sel_eq] at h
              split at h
              · rename_i hk'
                obtain ⟨U, hU, hUr⟩ := part_sound hu' hx
                have h1 := ih _ _ _ hk' hUr
                simp only at hU
                simp only [List.forIn_cons, Sem.run_bind, r_size hs, hU, h1, Result.andThen_ok, Sem.run_pure]
                exact ihl h
              · cases h
            · cases h
        · rw [obind_eq] at hk
          obtain ⟨_, _, hk⟩ := hk
          obtain ⟨_, hk⟩ := ok_eq.1 hk
          cases hk
        all_goals cases hk
    · cases h
theorem keyV_under {d : Nat} {t : TypeId} {x : V} (h : keyV P d t x = true) : ∃ u, P.underlying t = some u := by
  cases hu : P.underlying t with
  | some u => exact ⟨u, rfl⟩
  | none =>
    cases d with
    | zero => cases h
    | succ d =>
      rw [show keyV P (d + 1) t x = match eqK P t with | some k => keyBy P (keyV P d) x k | none => false from rfl] at h
      have : eqK P t = none := by unfold eqK; rw [hu]
      rw [this] at h
      cases h

/-- what is found, and what the model finds -/
def FR (ρ : Ro) (i : Nat) (r : Option (Nat × V)) (r' : Option (Nat × Value)) : Prop := match r with
  | none => r' = none
  | some p => ∃ x, r' = some (i + p.1, x) ∧ VR ρ p.2 x

theorem findKey_cons (t : TypeId) (k : V) (en : V × V × Nat) (es : Es) : Ev.findKey P st t k (en :: es) =
    obind (eqV P st 8 t k en.1) fun b => sel b (some (some (0, en.2.1))) (obind (Ev.findKey P st t k es) fun r => some (match r with | none => none | some p => some (Nat.add p.1 1, p.2))) := rfl

theorem findAsking_sound (hr : RH P ρ st w.heap) {t : TypeId} {k : V} {K : Value} (hk : VR ρ k K) : ∀ {es : Es} {l : List MapEntry} {r : Option (Nat × V)} (i : Nat), Ev.findKey P st t k es = some r → EsR ρ es l →
    ∃ r', (Instr.findAsking t K l i).run P w = .ok r' w ∧ FR ρ i r r'
  | [], l, r, i, h, he => by simp only [EsR] at he; subst he; cases h; exact ⟨none, rfl, rfl⟩
  | en :: es, l, r, i, h, he => by
    simp only [EsR] at he
    obtain ⟨y, ys, rfl, h1, h2, h3, h4⟩ := he
    rw [findKey_cons, obind_eq] at h
    obtain ⟨b, hb, h⟩ := h
    have h5 := eqV_sound hr 8 10000 (by omega) _ _ _ _ _ _ hb hk h1
    cases b
    · rw [sel_false, obind_eq] at h
      obtain ⟨r0, hr0, h⟩ := h
      obtain ⟨r', h6, h7⟩ := findAsking_sound hr hk (i + 1) hr0 h4
      refine ⟨r', by simpa [Instr.findAsking, Op.equal, Op.maxDepth, h5] using h6, ?_⟩
      cases h
      cases r0 with
      | none => exact h7
      | some p => obtain ⟨x, h8, h9⟩ := h7; exact ⟨x, by rw [h8]; show some (i + 1 + p.1, x) = some (i + (p.1 + 1), x); rw [show i + 1 + p.1 = i + (p.1 + 1) by omega], h9⟩
    · rw [sel_true] at h
      cases h
      exact ⟨some (i, y.val), by simp [Instr.findAsking, Op.equal, Op.maxDepth, h5], ⟨_, rfl, h2⟩⟩

theorem sameNow_run {t : TypeId} {d : TypeDesc} {K E : Value} {c : Bool} (hu : P.underlying t = some d) (h : Instr.sameNow d K E = some c) (D : Nat) : (Op.equalIn (D + 1) t K E).run P w = .ok c w := by
  unfold Instr.sameNow at h
  split at h
  · split at h
    · rename_i hk; subst hk; cases h
      simp [Op.equalIn, r_under hu]
    · cases h
  · cases h; simp [Op.equalIn, r_under hu]
  · cases h; simp [Op.equalIn, r_under hu]
  · cases h

theorem findNow_sound {t : TypeId} {d : TypeDesc} (hu : P.underlying t = some d) {K : Value} : ∀ {l : List MapEntry} {i : Nat} {q : Option (Nat × Value)}, Instr.findNow d K l i = some q →
    (Instr.findAsking t K l i).run P w = .ok q w
  | [], i, q, h => by cases h; rfl
  | en :: l, i, q, h => by
    unfold Instr.findNow at h
    split at h
    · rename_i hs
      cases h
      have := sameNow_run (P := P) (w := w) hu hs 9999
      simp [Instr.findAsking, Op.equal, Op.maxDepth, this]
    · rename_i hs
      have := sameNow_run (P := P) (w := w) hu hs 9999
      simpa [Instr.findAsking, Op.equal, Op.maxDepth, this] using findNow_sound hu h
    · cases h

theorem findKey_sound (hr : RH P ρ st w.heap) {t : TypeId} {u : TypeDesc} (hu : P.underlying t = some u) {k : V} {K : Value} (hk : VR ρ k K) {es : Es} {l : List MapEntry} {r : Option (Nat × V)} (h : Ev.findKey P st t k es = some r) (he : EsR ρ es l) :
    ∃ r', (Instr.findKey t K l).run P w = .ok r' w ∧ FR ρ 0 r r' := by
  obtain ⟨r', h1, h2⟩ := findAsking_sound hr hk 0 h he
  refine ⟨r', ?_, h2⟩
  simp only [Instr.findKey, Sem.run_bind, r_under hu, Result.andThen_ok]
  split
  · rename_i q hq
    have := findNow_sound (P := P) (w := w) hu hq
    rw [h1] at this
    cases this
    rfl
  · exact h1

theorem mapT_eq {t : TypeId} {q : TypeId × TypeId} (h : mapT P t = some q) : P.underlying t = some (.map q.1 q.2) := by
  unfold mapT at h
  split at h
  · cases h; assumption
  · cases h

theorem look1_sound (hr : RH P ρ st w.heap) {q : TypeId × TypeId} {k v : V} {K : Value} {c : Bool} {es : Es} {l : List MapEntry} (h : look1 P st q k c es = some v) (hk : VR ρ k K) (he : EsR ρ es l) :
    (∀ em, (Instr.checkKey em 10000 q.1 K).run P w = .ok () w) ∧ ∃ r', (Instr.findKey q.1 K l).run P w = .ok r' w ∧
      ((∃ i x, r' = some (i, x) ∧ VR ρ v (if c = true then .tuple #[x, .bool true] else x)) ∨
       (r' = none ∧ ∃ z, (zeroValue q.2).run P w = .ok z w ∧ VR ρ v (if c = true then .tuple #[z, .bool false] else z))) := by
  unfold look1 at h
  obtain ⟨h1, h⟩ := ok_eq.1 h
  rw [obind_eq] at h
  obtain ⟨r, hr', h⟩ := h
  obtain ⟨u, hu⟩ := keyV_under h1
  refine ⟨fun em => keyV_sound (P := P) (ρ := ρ) (w := w) em 8 10000 (by omega) _ _ _ h1 hk, ?_⟩
  obtain ⟨r', h3, h4⟩ := findKey_sound hr hu hk hr' he
  refine ⟨r', h3, ?_⟩
  cases r with
  | none =>
    simp only [FR] at h4
    subst h4
    simp only at h
    rw [obind_eq] at h
    obtain ⟨z, hz, h⟩ := h
    obtain ⟨Z, hZ, hZr, _⟩ := r_zero hz ρ
    cases h
    refine .inr ⟨rfl, Z, hZ w, ?_⟩
    cases c
    · exact hZr
    · simp only [VR, sel_true, if_true]; exact ⟨_, rfl, VRs.cons hZr (VRs.cons (by simp only [VR]) VRs.nil)⟩
  | some p =>
    obtain ⟨x, rfl, hx⟩ := h4
    cases h
    refine .inl ⟨_, x, rfl, ?_⟩
    cases c
    · exact hx
    · simp only [VR, sel_true, if_true]; exact ⟨_, rfl, VRs.cons hx (VRs.cons (by simp only [VR]) VRs.nil)⟩

theorem r_getObj {r : Nat} {o : Obj} (h : w.heap[r]? = some o) (hn : ∀ c e f, o ≠ .cells c e f) : (getObj r).run P w = .ok o w := by
  cases o <;> first | (exact absurd rfl (hn _ _ _)) | simp only [getObj, Sem.run, h]
theorem r_setObj {r : Nat} {o o' : Obj} (h : w.heap[r]? = some o) (hn : ∀ c e f, o ≠ .cells c e f) : (setObj r o').run P w = .ok () { w with heap := w.heap.setIfInBounds r o' } := by
  cases o <;> first | (exact absurd rfl (hn _ _ _)) | simp only [setObj, Sem.run, h]

theorem lookup_sound (hr : RH P ρ st w.heap) {t : TypeId} {m k v : V} {M K : Value} {c : Bool} (h : Ev.lookup P st t m k c = some v) (hm : VR ρ m M) (hk : VR ρ k K) :
    ∃ Z, (Instr.lookup t M K c).run P w = .ok Z w ∧ VR ρ v Z := by
  unfold Ev.lookup at h
  rw [obind_eq] at h
  obtain ⟨q, hq, h⟩ := h
  have hu := mapT_eq hq
  cases m <;> first | (cases h; done) | skip
  case nilm =>
    simp only at h
    simp only [VR] at hm
    subst hm
    obtain ⟨h1, r', h2, h3⟩ := look1_sound (l := []) hr h hk rfl
    rcases h3 with ⟨i, x, rfl, h4⟩ | ⟨rfl, z, hz, h4⟩
    · exact ⟨_, by simp [Instr.lookup, r_under hu, h1, h2], h4⟩
    · exact ⟨_, by simp [Instr.lookup, r_under hu, h1, h2, hz], h4⟩
  case map id =>
    simp only at h
    obtain ⟨es, cl, hb, h⟩ := mapAt_eq h
    obtain ⟨p, hp, rfl⟩ := hm.map_at hr hb
    obtain ⟨o, ho, _, arr, rfl, he⟩ := hr.block hp hb
    obtain ⟨h1, r', h2, h3⟩ := look1_sound hr h hk he
    have hg := r_getObj (P := P) ho (by simp)
    rcases h3 with ⟨i, x, rfl, h4⟩ | ⟨rfl, z, hz, h4⟩
    · exact ⟨_, by simp [Instr.lookup, r_under hu, hg, h1, h2], h4⟩
    · exact ⟨_, by simp [Instr.lookup, r_under hu, hg, h1, h2, hz], h4⟩
end
end Go.Ev


/- What reads: conversions, lengths, and all together. -/
namespace Go.Ev
section
variable {P : Program} {ρ : Ro} {st : St} {e : Env} {a : Act} {w : World}

theorem u8s_sound : ∀ {l : List V} {m : List Nat} {xs : List Value}, u8s l = some m → VRs ρ l xs → xs = m.map (fun (b : Nat) => Value.int .u8 (b : Int)) ∧ small m
  | [], m, xs, h, hx => by cases h; simp only [VRs] at hx; subst hx; exact ⟨rfl, fun x hx => by cases hx⟩
  | v :: l, m, xs, h, hx => by
    simp only [VRs] at hx
    obtain ⟨y, ys, rfl, h1, h2⟩ := hx
    unfold u8s at h
    rw [omapM_cons, obind_eq] at h
    obtain ⟨b, hb, h⟩ := h
    rw [obind_eq] at h
    obtain ⟨m', hm, h⟩ := h
    cases h
    obtain ⟨ih1, ih2⟩ := u8s_sound hm h2
    split at hb
    · obtain ⟨b', h3, h4⟩ := inat_eq hb
      obtain ⟨h5, h6⟩ := ok_eq.1 h4
      cases h6
      subst h3
      simp only [VR] at h1
      subst h1
      refine ⟨by rw [ih1]; rfl, fun x hx => ?_⟩
      rcases List.mem_cons.1 hx with rfl | hx
      · simpa [Nat.blt_eq] using h5
      · exact ih2 x hx
    · cases hb

theorem push_foldl : ∀ (m : List Nat) (s : ByteArray), (m.map (fun (b : Nat) => (b : Int))).foldl (fun r n => r.push (UInt8.ofNat n.toNat)) s = s ++ strOf m
  | [], s => by
    apply ByteArray.ext
    simp [strOf]
  | b :: m, s => by
    rw [List.map_cons, List.foldl_cons, push_foldl m]
    apply ByteArray.ext
    simp [strOf, ByteArray.push, ByteArray.data_append]

theorem toStr_sound (hr : RH P ρ st w.heap) {x v : V} {X : Value} (h : toStr st x = some v) (hx : VR ρ x X) :
    ∃ s, v = .str s ∧ small s ∧ (Conv.bytesToString X).run P w = .ok (.string (strOf s)) w := by
  unfold toStr at h
  split at h
  · cases h
    simp only [VR] at hx
    subst hx
    exact ⟨[], rfl, fun x hx => (by cases hx), rfl⟩
  · rename_i id off n cap sz
    obtain ⟨h1, h⟩ := ok_eq.1 h
    obtain rfl := Nat.eq_of_beq_eq_true h1
    obtain ⟨z, el, m, t, hb, h⟩ := cellsAt_eq h
    obtain ⟨h2, h⟩ := ok_eq.1 h
    rw [obind_eq] at h
    obtain ⟨l, hl, h⟩ := h
    rw [obind_eq] at h
    obtain ⟨s, hs, h⟩ := h
    cases h
    obtain ⟨p, A, c, hp, rfl, hnc, _, hA, _⟩ := hx.slice_at hr hb
    obtain ⟨cs, el', fz, hh, _, _, _, hc, _⟩ := hr.cells hp hb
    obtain ⟨xs, h3, h4, h5, _⟩ := hc.row hl (Nat.le_of_ble_eq_true h2)
    obtain ⟨h6, h7⟩ := u8s_sound hs h3
    refine ⟨s, rfl, h7, ?_⟩
    have hload : (loadCells A n).run P w = .ok (((s.map (fun (b : Nat) => (b : Int))).map (Value.int .u8)).toArray) w := by
      subst h4
      by_cases h0 : xs.length = 0
      · have : xs = [] := List.eq_nil_of_length_eq_zero h0
        subst this
        have : s = [] := by cases s with | nil => rfl | cons b s => cases h6
        subst this
        rfl
      · rw [hA (by omega), r_loadCells hh h5, h6]
        simp
    rw [run_bytesToString w A n c _ hload, push_foldl]
    congr 2
    try (apply ByteArray.ext; simp)
  · cases h

theorem rowAt_mono {fits : TypeId → Bool} {c c' : Nat} (h : c ≤ c') : ∀ {d : Nat} {e : TypeId} {off n : Nat}, rowAt P fits d e c off n = true → rowAt P fits d e c' off n = true
  | 0, _, _, _, hr => hr
  | d + 1, e, off, n, hr => by
    simp only [rowAt] at hr ⊢
    by_cases hs : P.cellsOf e = 0
    · rw [if_pos hs] at hr; cases hr
    · rw [if_neg hs] at hr ⊢
      simp only [Bool.or_eq_true, Bool.and_eq_true, decide_eq_true_eq] at hr ⊢
      rcases hr with ⟨⟨h1, h2⟩, h3⟩ | ⟨h1, h2⟩
      · exact .inl ⟨⟨h1, by omega⟩, h3⟩
      · exact .inr ⟨by omega, h2⟩
theorem liesAt_mono {c c' : Nat} (h : c ≤ c') {e : TypeId} {off : Nat} : ∀ {d : Nat} {u : TypeId} {n : Nat}, liesAt P d e c off u n = true → liesAt P d e c' off u n = true
  | 0, _, _, hr => hr
  | d + 1, u, n, hr => by
    unfold liesAt at hr ⊢
    simp only [Bool.or_eq_true] at hr ⊢
    rcases hr with h1 | h1
    · exact .inl (rowAt_mono h h1)
    · refine .inr ?_
      split at h1
      · rename_i m u' hu
        exact liesAt_mono h h1
      · cases h1

theorem cvK_eq {s d : TypeId} {k : Cv} (h : cvK P s d = some k) : match k with
    | .int k => ∃ k0, P.underlying s = some (.int k0) ∧ P.underlying d = some (.int k)
    | .str => P.underlying s = some .string ∧ P.underlying d = some .string
    | .bytes e => P.underlying s = some .string ∧ P.underlying d = some (.slice e) ∧ P.underlying e = some (.int .u8)
    | .ofBytes => ∃ e, P.underlying s = some (.slice e) ∧ P.underlying d = some .string ∧ P.underlying e = some (.int .u8)
    | .toUns z => ∃ t, P.underlying s = some (.pointer t) ∧ P.underlying d = some .unsafePointer ∧ szT P t = some z
    | .ofUns u => P.underlying s = some .unsafePointer ∧ P.underlying d = some (.pointer u) := by
  unfold cvK at h
  split at h
  · cases h; rename_i h1 h2; exact ⟨_, h1, h2⟩
  · cases h; rename_i h1 h2; exact ⟨h1, h2⟩
  · split at h
    · cases h; rename_i h1 h2 _ h3; exact ⟨h1, h2, h3⟩
    · cases h
  · split at h
    · cases h; rename_i h1 h2 _ h3; exact ⟨_, h1, h2, h3⟩
    · cases h
  · rw [obind_eq] at h
    obtain ⟨z, hz, h⟩ := h
    cases h
    rename_i h1 h2
    exact ⟨_, h1, h2, hz⟩
  · cases h; rename_i h1 h2; exact ⟨h1, h2⟩
  · cases h

theorem convertR_sound (hr : RH P ρ st w.heap) {s d : TypeId} {k : Cv} {x v : V} {X : Value} (hk : cvK P s d = some k) (h : convertR P st x k = some v) (hx : VR ρ x X) :
    ∃ Z, (convert s d X).run P w = .ok Z w ∧ VR ρ v Z := by
  have hk := cvK_eq hk
  cases k with
  | int k =>
    obtain ⟨k0, h1, h2⟩ := hk
    obtain ⟨k', n, rfl, h⟩ := vint_eq h
    cases h
    simp only [VR] at hx
    subst hx
    exact ⟨_, by simp only [convert, Sem.run_bind, r_under h1, r_under h2, Result.andThen_ok]; rfl, by simp only [VR, wr_eq]⟩
  | str =>
    obtain ⟨h1, h2⟩ := hk
    cases x <;> first | (cases h; done) | skip
    cases h
    have hx' := hx
    simp only [VR] at hx
    obtain ⟨_, rfl⟩ := hx
    exact ⟨_, by simp only [convert, Sem.run_bind, r_under h1, r_under h2, Result.andThen_ok]; rfl, hx'⟩
  | bytes e => cases h
  | ofBytes =>
    obtain ⟨e, h1, h2, h3⟩ := hk
    obtain ⟨s', rfl, hs, hrun⟩ := toStr_sound hr h hx
    have hX : ∃ a l c, X = .slice a l c := by
      have h : toStr st x = some (.str s') := h
      unfold toStr at h
      split at h
      · simp only [VR] at hx; exact ⟨_, _, _, hx⟩
      · simp only [VR] at hx; obtain ⟨A, c, rfl, _⟩ := hx; exact ⟨_, _, _, rfl⟩
      · cases h
    obtain ⟨A, l, c, rfl⟩ := hX
    exact ⟨_, by rw [run_convert_bytes_string w s d e A l c h1 h3 h2]; exact hrun, by simp only [VR]; exact ⟨hs, trivial⟩⟩
  | toUns z =>
    obtain ⟨t, h1, h2, h3⟩ := hk
    unfold convertR at h
    simp only at h
    split at h
    · cases h
      simp only [VR] at hx
      subst hx
      exact ⟨.pointer none, by simp [convert, r_under h1, r_under h2, Conv.unsafePointer], by simp only [VR]⟩
    · rename_i id off
      obtain ⟨zz, el, m, t', hb, h⟩ := cellsAt_eq h
      obtain ⟨h4, h⟩ := ok_eq.1 h
      obtain ⟨h5, h⟩ := ok_eq.1 h
      cases h
      obtain ⟨p, hp, rfl⟩ := hx.ptr_at hr hb
      obtain ⟨c, el', fz, hh, _, hcs, hpn, _⟩ := hr.cells hp hb
      have h4 : off < m := by simpa [Nat.blt_eq] using h4
      have h5 : ¬ z = 0 := fun e0 => by subst e0; simp at h5
      have hlt : ¬ c.size ≤ p.o + off := by omega
      refine ⟨_, ?_, hx⟩
      simp [convert, r_under h1, r_under h2, Conv.unsafePointer, Conv.seenAt, viewAt, World.shape?, hh, cellsIn, r_size h3, h5, hlt]
    · cases h
  | ofUns u =>
    obtain ⟨h1, h2⟩ := hk
    unfold convertR at h
    simp only at h
    split at h
    · cases h
      simp only [VR] at hx
      subst hx
      exact ⟨.pointer none, by simp [convert, r_under h1, r_under h2, Conv.unsafePointer], by simp only [VR]⟩
    · rename_i id off
      obtain ⟨zz, el, m, t', hb, h⟩ := cellsAt_eq h
      split at h
      · rename_i el0
        rw [obind_eq] at h
        obtain ⟨su, hsu, h⟩ := h
        obtain ⟨h4, h⟩ := ok_eq.1 h
        cases h
        obtain ⟨p, hp, rfl⟩ := hx.ptr_at hr hb
        obtain ⟨c, el', fz, hh, _, hcs, hpn, _, _, he⟩ := hr.cells hp hb
        obtain ⟨rfl, hpo⟩ := he _ rfl
        refine ⟨_, ?_, hx⟩
        have h6 : liesAt P P.depth el' (c.size / P.cellsOf el') (p.o + off) u 1 = true := by
          rw [hpo, Nat.zero_add]
          exact liesAt_mono (Nat.div_le_div_right (by omega)) h4
        simp [convert, r_under h1, r_under h2, Conv.unsafePointer, Conv.seenAt, viewAt, World.shape?, hh, variablesAt, r_size hsu, h6]
      · cases h
    · cases h

theorem elemT_eq {t u : TypeId} (h : elemT P t = some u) : P.underlying t = some (.slice u) := by
  unfold elemT at h
  split at h
  · cases h; assumption
  · cases h

theorem lenV_sound (hr : RH P ρ st w.heap) {t ty : TypeId} {ts : Array TypeId} {x v : V} {X : Value} (ht : ts[0]? = some t) (h : lenV P st t x = some v) (hx : VR ρ x X) :
    ∃ Z, (Builtin.len_ ts ty #[X]).run P w = .ok Z w ∧ VR ρ v Z := by
  unfold lenV at h
  split at h
  · rename_i hu
    cases x <;> first | (cases h; done) | skip
    cases h
    simp only [VR] at hx
    obtain ⟨_, rfl⟩ := hx
    exact ⟨_, by simp [Builtin.len_, ht, r_under hu]; rfl, by simp only [VR, len_eq]; simp [goInt]⟩
  · rename_i n el hu
    cases h
    exact ⟨_, by simp [Builtin.len_, ht, r_under hu]; rfl, by simp only [VR]; simp [goInt]⟩
  · rename_i ar hu
    split at h
    · rename_i n el hu'
      cases h
      exact ⟨_, by simp [Builtin.len_, ht, r_under hu, r_under hu']; rfl, by simp only [VR]; simp [goInt]⟩
    · cases h
  · rename_i el hu
    split at h
    · cases h
      simp only [VR] at hx
      obtain ⟨A, c, rfl, _⟩ := hx
      exact ⟨_, by simp [Builtin.len_, ht, r_under hu]; rfl, by simp only [VR]; simp [goInt]⟩
    · cases h
      simp only [VR] at hx
      subst hx
      exact ⟨_, by simp [Builtin.len_, ht, r_under hu]; rfl, by simp only [VR]; simp [goInt]⟩
    · cases h
  · rename_i k el hu
    split at h
    · cases h
      simp only [VR] at hx
      subst hx
      exact ⟨_, by simp [Builtin.len_, ht, r_under hu]; rfl, by simp only [VR]; simp [goInt]⟩
    · rename_i id
      obtain ⟨es, cl, hb, h⟩ := mapAt_eq h
      cases h
      obtain ⟨p, hp, rfl⟩ := hx.map_at hr hb
      obtain ⟨o, ho, _, arr, rfl, he⟩ := hr.block hp hb
      have hlen : ∀ {es : Es} {l : List MapEntry}, EsR ρ es l → l.length = es.length := by
        intro es
        induction es with
        | nil => intro l h; simp only [EsR] at h; subst h; rfl
        | cons e es ih => intro l h; simp only [EsR] at h; obtain ⟨y, ys, rfl, _, _, _, h4⟩ := h; simp [ih h4]
      have := hlen he
      exact ⟨_, by simp [Builtin.len_, ht, r_under hu, r_getObj ho]; rfl, by simp only [VR, len_eq]; simp at this; simp [goInt, this]⟩
    · cases h
  · cases h

theorem capV_sound {t ty : TypeId} {ts : Array TypeId} {x v : V} {X : Value} (ht : ts[0]? = some t) (h : capV P t x = some v) (hx : VR ρ x X) :
    ∃ Z, (Builtin.cap_ ts ty #[X]).run P w = .ok Z w ∧ VR ρ v Z := by
  unfold capV at h
  rw [obind_eq] at h
  obtain ⟨el, hel, h⟩ := h
  have hu := elemT_eq hel
  split at h
  · rw [obind_eq] at h
    obtain ⟨k, rfl, h⟩ := h
    cases h
    simp only [VR] at hx
    obtain ⟨A, c, rfl, _, hc, _⟩ := hx
    have hck := hc _ rfl
    subst hck
    exact ⟨_, by simp [Builtin.cap_, ht, r_under hu]; rfl, by simp only [VR]; simp [goInt]⟩
  · cases h
    simp only [VR] at hx
    subst hx
    exact ⟨_, by simp [Builtin.cap_, ht, r_under hu]; rfl, by simp only [VR]; simp [goInt]⟩
  · cases h

theorem imax_eq (x y : Int) : imax x y = if y > x then y else x := by
  unfold imax
  rw [sel_eq, ilt_eq]
  simp
theorem imin_eq (x y : Int) : imin x y = if y < x then y else x := by
  unfold imin
  rw [sel_eq, ilt_eq]
  simp

theorem minmax_sound {f : Int → Int → Int} {g : Value → Value → Sem Value} (hg : ∀ k k' x y, g (.int k x) (.int k' y) = pure (.int k (f x y))) :
    ∀ {l : List V} {L : List Value} {x v : V} {X : Value}, (List.rec (motive := fun _ => V → Option V) (fun a => some a) (fun b _ ih a => vint a fun k x => vint b fun _ y => ih (.int k (f x y))) l x) = some v → VR ρ x X → VRs ρ l L →
      ∃ Z, (L.foldlM g X).run P w = .ok Z w ∧ VR ρ v Z
  | [], L, x, v, X, h, hx, hl => by cases h; simp only [VRs] at hl; subst hl; exact ⟨X, rfl, hx⟩
  | b :: l, L, x, v, X, h, hx, hl => by
    simp only [VRs] at hl
    obtain ⟨y, ys, rfl, h1, h2⟩ := hl
    obtain ⟨k, n, rfl, h3⟩ := vint_eq h
    clear h
    obtain ⟨k', m, rfl, h⟩ := vint_eq h3
    simp only [VR] at hx h1
    subst hx
    subst h1
    obtain ⟨Z, hZ, hv⟩ := minmax_sound hg (l := l) (L := ys) (x := .int k (f n m)) (X := .int k (f n m)) h (by simp only [VR]) h2
    exact ⟨Z, by rw [List.foldlM_cons, hg]; exact hZ, hv⟩

theorem arrT_eq {t : TypeId} {q : Nat × Nat} (h : arrT P t = some q) : ∃ e, P.underlying t = some (.array q.1 e) ∧ szT P e = some q.2 := by
  unfold arrT at h
  split at h
  · rename_i n e hu
    rw [obind_eq] at h
    obtain ⟨s, hs, h⟩ := h
    cases h
    exact ⟨e, hu, hs⟩
  · cases h

theorem sliceArr_sound (hr : RH P ρ st w.heap) {t : TypeId} {q : Nat × Nat} {x v : V} {X : Value} {lo hi : Option V} {LO HI : Option Value} (hq : arrT P t = some q) (h : sliceArr st q x lo hi = some v) (hx : VR ρ x X) (kl : ORel ρ lo LO) (kh : ORel ρ hi HI) :
    ∃ Z, (Instr.sliceAt t X LO HI none).run P w = .ok Z w ∧ VR ρ v Z := by
  obtain ⟨e, hu, hs⟩ := arrT_eq hq
  unfold sliceArr at h
  obtain ⟨id, off, rfl, h1⟩ := vptr_eq h
  clear h
  obtain ⟨z, el, m, t', hb, h2⟩ := cellsAt_eq h1
  obtain ⟨h3, h4⟩ := ok_eq.1 h2
  have h3 : off + q.1 * q.2 ≤ m := Nat.le_of_ble_eq_true h3
  obtain ⟨p, hp, rfl⟩ := hx.ptr_at hr hb
  obtain ⟨c, el', fz, hh, _, hcs, hpn, _⟩ := hr.cells hp hb
  obtain ⟨l', h', h5, h6⟩ := sliceK_sound (P := P) (A := ⟨p.r, p.o + off, none⟩) false h4 (Nat.le_refl _) kl kh (.inl ⟨p, hp, fun _ => rfl, by omega⟩)
  exact ⟨_, by simp only [Instr.sliceAt, Sem.run_bind, r_under hu, Result.andThen_ok, Instr.sureAddr, Sem.run_pure, h5, r_size hs], h6⟩

theorem nth0 {ts : Array TypeId} {t : TypeId} {i : Nat} (h : nth i ts.toList = some t) : ts[i]? = some t := by
  rw [nth_eq] at h
  rw [← Array.getElem?_toList]
  exact h

theorem eqGuard_fine {op : BinOp} {t : TypeId} {x y : Operand} {A B : V} {X Y : Value} (hop : op = .eql ∨ op = .neq) (h : eqFine P t (bor (isConstO x) (isConstO y)) A B = true) (hx : VR ρ A X) (hy : VR ρ B Y) :
    (eqGuard op t x y X Y).run P w = .ok () w := by
  have other : ∀ {X Y : Value}, (∀ a b, X = .agg a → Y = .agg b → False) → (X = .nilIface → Y = .nilIface → False) → (eqGuard op t x y X Y).run P w = .ok () w := by
    intro X Y h1 h2
    unfold eqGuard
    rcases hop with rfl | rfl
    all_goals
      simp only [Bool.not_true, Bool.false_eq_true, if_false]
      cases X <;> first
        | rfl
        | (cases Y <;> first | rfl | (exact absurd rfl (h1 _ _ rfl)) | (exact absurd rfl (h2 rfl)) | (exact (h1 _ _ rfl rfl).elim) | (exact (h2 rfl rfl).elim))
  by_cases hn : X = .nilIface ∧ Y = .nilIface
  · obtain ⟨rfl, rfl⟩ := hn
    have hA : A = .nili := by
      cases A <;> simp only [VR] at hx <;> first | rfl | (cases hx; done) | (obtain ⟨_, hx⟩ := hx; cases hx; done) | (rcases hx with ⟨_, _, hx⟩ | ⟨_, _, hx⟩ <;> cases hx; done) | (obtain ⟨_, _, hx, _⟩ := hx; cases hx; done) | (obtain ⟨_, hx, _⟩ := hx; cases hx; done)
    have hB : B = .nili := by
      cases B <;> simp only [VR] at hy <;> first | rfl | (cases hy; done) | (obtain ⟨_, hy⟩ := hy; cases hy; done) | (rcases hy with ⟨_, _, hy⟩ | ⟨_, _, hy⟩ <;> cases hy; done) | (obtain ⟨_, _, hy, _⟩ := hy; cases hy; done) | (obtain ⟨_, hy, _⟩ := hy; cases hy; done)
    subst hA
    subst hB
    have hc : bor (isConstO x) (isConstO y) = true := h
    rw [bor_eq] at hc
    unfold eqGuard
    rcases hop with rfl | rfl
    all_goals
      simp only [Bool.not_true, Bool.false_eq_true, if_false]
      cases x <;> cases y <;> first | (cases hc; done) | rfl
  · by_cases ha : ∃ a b, X = .agg a ∧ Y = .agg b
    · obtain ⟨xa, ya, rfl, rfl⟩ := ha
      have hA : ∃ l, A = .agg l := by
        cases A <;> simp only [VR] at hx <;> first | exact ⟨_, rfl⟩ | (cases hx; done) | (obtain ⟨_, hx⟩ := hx; cases hx; done) | (rcases hx with ⟨_, _, hx⟩ | ⟨_, _, hx⟩ <;> cases hx; done) | (obtain ⟨_, _, hx, _⟩ := hx; cases hx; done) | (obtain ⟨_, hx, _⟩ := hx; cases hx; done)
      obtain ⟨l, rfl⟩ := hA
      have hc : P.eqGuardType P.depth t = false := by
        have : bnot (P.eqGuardType P.depth t) = true := h
        simpa using this
      unfold eqGuard
      rcases hop with rfl | rfl
      all_goals simp [hc]
    · exact other (fun a b e1 e2 => ha ⟨a, b, e1, e2⟩) (fun e1 e2 => hn ⟨e1, e2⟩)

theorem eql_low0 {t : TypeId} {A : V} {b : Bool} {X Y : Value} {D : Nat} (hA : VR ρ A X) (hb' : (Op.equal t X Y).run P w = .ok b w) (hb : (Op.equalIn (D + 1) t X Y).run P w = .ok b w) :
    (_root_.Go.binOp .eql t X Y).run P w = .ok (.bool b) w ∧ (_root_.Go.binOp .neq t X Y).run P w = .ok (.bool (!b)) w := by
  have gen : _root_.Go.binOp .eql t X Y = (do pure (.bool (← Op.equal t X Y))) → _root_.Go.binOp .neq t X Y = (do pure (.bool (!(← Op.equal t X Y)))) → (_root_.Go.binOp .eql t X Y).run P w = .ok (.bool b) w ∧ (_root_.Go.binOp .neq t X Y).run P w = .ok (.bool (!b)) w := by
    intro e1 e2
    rw [e1, e2]
    exact ⟨by simp [hb'], by simp [hb']⟩
  have hu : ∃ d, P.underlying t = some d := by
    cases hu : P.underlying t with
    | some d => exact ⟨d, rfl⟩
    | none =>
      simp only [Op.equalIn, Sem.run_bind, underlying, run_program, Result.andThen_ok, hu] at hb
      cases hb
  obtain ⟨d, hu⟩ := hu
  cases X with
  | int k m =>
    cases Y with
    | int k' n =>
      simp only [Op.equalIn, Sem.run_bind, r_under hu, Result.andThen_ok] at hb
      cases d <;> first | (cases hb; done) | skip
      simp only [Sem.run_ite] at hb
      by_cases hk : k = k'
      · rw [if_pos hk] at hb
        cases hb
        subst hk
        exact ⟨by simp [_root_.Go.binOp, Op.intCmp], by simp [_root_.Go.binOp, Op.intCmp, bne]⟩
      · rw [if_neg hk] at hb
        cases hb
    | _ => exact gen rfl rfl
  | string x =>
    cases Y with
    | string y =>
      simp only [Op.equalIn, Sem.run_bind, r_under hu, Result.andThen_ok] at hb
      cases d <;> first | (cases hb; done) | skip
      simp only [Sem.run_pure] at hb
      cases hb
      exact ⟨by simp [_root_.Go.binOp, Op.stringOp, beq_toListBytes], by simp [_root_.Go.binOp, Op.stringOp, beq_toListBytes]⟩
    | _ => exact gen rfl rfl
  | float k m => exfalso; cases A <;> simp only [VR] at hA <;> first | (cases hA; done) | (obtain ⟨_, hA⟩ := hA; cases hA; done) | (rcases hA with ⟨_, _, hA⟩ | ⟨_, _, hA⟩ <;> cases hA; done) | (obtain ⟨_, _, hA, _⟩ := hA; cases hA; done) | (obtain ⟨_, hA, _⟩ := hA; cases hA; done)
  | complex k m n => exfalso; cases A <;> simp only [VR] at hA <;> first | (cases hA; done) | (obtain ⟨_, hA⟩ := hA; cases hA; done) | (rcases hA with ⟨_, _, hA⟩ | ⟨_, _, hA⟩ <;> cases hA; done) | (obtain ⟨_, _, hA, _⟩ := hA; cases hA; done) | (obtain ⟨_, hA, _⟩ := hA; cases hA; done)
  | pointer p => cases Y <;> exact gen rfl rfl
  | _ => exact gen rfl rfl

theorem eql_low {t : TypeId} {A : V} {b : Bool} {X Y : Value} (hA : VR ρ A X) (hb : (Op.equal t X Y).run P w = .ok b w) :
    (_root_.Go.binOp .eql t X Y).run P w = .ok (.bool b) w ∧ (_root_.Go.binOp .neq t X Y).run P w = .ok (.bool (!b)) w :=
  eql_low0 (D := 9999) hA hb hb

theorem read_sound {xt : FuncId → Option XK} (hr : RH P ρ st w.heap) {o : Oper} (ht : HO P ρ e a o) {H : HR} {v : V} (hc : cd P xt o.op = .read H) (hv : H e st = some v) :
    ∃ X, (execOp a.eval o).run P w = .ok (.value X) w ∧ VR ρ v X := by
  cases ho : o.op <;> rw [ho] at hc <;> first | (cases hc; done) | skip
  case load t x =>
    cases hc
    unfold rLoad at hv
    rw [obind_eq] at hv
    obtain ⟨A, hA, hv⟩ := hv
    have hAr := ht _ (by simp [ho, Op.operands]) _ hA
    obtain ⟨id, off, rfl, h1⟩ := vptr_eq hv
    obtain ⟨Z, hZ, hr'⟩ := load_sound hr hAr h1
    exact ⟨Z, by simp only [execOp, ho]; simp [hZ], hr'⟩
  case binOp op t x y u =>
    have hop : (op = .eql ∧ H = rEq P false t x y) ∨ (op = .neq ∧ H = rEq P true t x y) := by
      cases op <;> first | (cases hc; done) | (cases hc; simp)
    have main : ∀ neg : Bool, rEq P neg t x y e st = some v → ∃ b, v = .bool (if neg then !b else b) ∧ (Op.equal t (a.eval x) (a.eval y)).run P w = .ok b w ∧ (eqGuard op t x y (a.eval x) (a.eval y)).run P w = .ok () w ∧ ∃ A, VR ρ A (a.eval x) := by
      intro neg hv
      unfold rEq at hv
      rw [obind_eq] at hv
      obtain ⟨A, hA, hv⟩ := hv
      rw [obind_eq] at hv
      obtain ⟨B, hB, hv⟩ := hv
      obtain ⟨h1, hv⟩ := ok_eq.1 hv
      rw [obind_eq] at hv
      obtain ⟨b, hb, hv⟩ := hv
      cases hv
      have h2 := eqV_sound hr 8 10000 (by omega) _ _ _ _ _ _ hb (ht _ (by simp [ho, Op.operands]) _ hA) (ht _ (by simp [ho, Op.operands]) _ hB)
      exact ⟨b, by cases neg <;> simp, h2, eqGuard_fine (hop.imp (·.1) (·.1)) h1 (ht _ (by simp [ho, Op.operands]) _ hA) (ht _ (by simp [ho, Op.operands]) _ hB), A, ht _ (by simp [ho, Op.operands]) _ hA⟩
    rcases hop with ⟨rfl, rfl⟩ | ⟨rfl, rfl⟩
    · obtain ⟨b, rfl, h1, h2, A, h3⟩ := main _ hv
      exact ⟨.bool b, by simp only [execOp, ho]; simp [h2, (eql_low h3 h1).1], by simp [VR]⟩
    · obtain ⟨b, rfl, h1, h2, A, h3⟩ := main _ hv
      exact ⟨.bool (!b), by simp only [execOp, ho]; simp [h2, (eql_low h3 h1).2], by simp [VR]⟩
  case convert s d x =>
    simp only [cd, cdConvert] at hc
    split at hc
    · rename_i k hk
      split at hc
      · cases hc
      · cases hc
        unfold rConvert at hv
        rw [obind_eq] at hv
        obtain ⟨A, hA, hv⟩ := hv
        obtain ⟨Z, hZ, hr'⟩ := convertR_sound hr hk hv (ht _ (by simp [ho, Op.operands]) _ hA)
        exact ⟨Z, by simp only [execOp, ho]; simp [hZ], hr'⟩
    · cases hc
  case slice t x lo hi mx =>
    simp only [cd] at hc
    split at hc
    · rename_i q hq
      split at hc
      · cases hc
        unfold rSliceArr at hv
        rw [obind_eq] at hv
        obtain ⟨A, hA, hv⟩ := hv
        rw [obind_eq] at hv
        obtain ⟨L, hL, hv⟩ := hv
        rw [obind_eq] at hv
        obtain ⟨Hh, hH, hv⟩ := hv
        obtain ⟨Z, hZ, hr'⟩ := sliceArr_sound hr hq hv (ht _ (by simp [ho, Op.operands]) _ hA) (eoo_sound (fun x hx => ht x (by subst hx; simp [ho, Op.operands])) hL) (eoo_sound (fun x hx => ht x (by subst hx; simp [ho, Op.operands])) hH)
        exact ⟨Z, by simp only [execOp, ho]; simp [hZ], hr'⟩
      · cases hc
    · cases hc
  case lookup t x i c =>
    cases hc
    unfold rLookup at hv
    rw [obind_eq] at hv
    obtain ⟨A, hA, hv⟩ := hv
    rw [obind_eq] at hv
    obtain ⟨I, hI, hv⟩ := hv
    obtain ⟨Z, hZ, hr'⟩ := lookup_sound hr hv (ht _ (by simp [ho, Op.operands]) _ hA) (ht _ (by simp [ho, Op.operands]) _ hI)
    exact ⟨Z, by simp only [execOp, ho]; simp [hZ], hr'⟩
  case call c =>
    simp only [cd, cdCall] at hc
    split at hc
    · rename_i b hb
      have hH : H = rCallB P b c.argTypes.toList c.args.toList := by cases b <;> first | (cases hc; rfl) | (cases hc; done)
      subst hH
      unfold rCallB at hv
      rw [obind_eq] at hv
      obtain ⟨l, hl, hv⟩ := hv
      have hlr := eosA (fun x hx => ht x (by simp [ho, Op.operands, Call.operands, hx])) hl
      have run : ∀ {Z : Value}, (∀ cs, (builtin b c.argTypes o.type cs (c.args.map a.eval)).run P w = .ok (.value Z) w) → (execOp a.eval o).run P w = .ok (.value Z) w := by
        intro Z hZ
        simp only [execOp, ho, resolve, hb]
        exact hZ _
      have one : ∀ {x : V}, l = [x] → ∃ X, c.args.map a.eval = #[X] ∧ VR ρ x X := by
        intro x hx
        subst hx
        simp only [VRs] at hlr
        obtain ⟨X, _, h1, h2, rfl⟩ := hlr
        exact ⟨X, Array.toList_inj.1 h1, h2⟩
      have mm : ∀ {f : Int → Int → Int} {g : Value → Value → Sem Value}, (∀ k k' x y, g (.int k x) (.int k' y) = pure (.int k (f x y))) → minmax f l = some v →
          ∃ X L Z, (c.args.map a.eval).toList = X :: L ∧ (L.foldlM g X).run P w = .ok Z w ∧ VR ρ v Z := by
        intro f g hfg h
        cases l with
        | nil => cases h
        | cons x l =>
          simp only [VRs] at hlr
          obtain ⟨X, L, h1, h2, h3⟩ := hlr
          obtain ⟨Z, hZ, hzr⟩ := minmax_sound (P := P) (w := w) hfg (l := l) (L := L) h h2 h3
          exact ⟨X, L, Z, h1, hZ, hzr⟩
      cases b <;> first | (cases hv; done) | (cases hc; done) | skip
      case len =>
        obtain ⟨x, hx, hv⟩ := args1_eq hv
        obtain ⟨X, hX, hXr⟩ := one hx
        rw [obind_eq] at hv
        obtain ⟨t, ht', hv⟩ := hv
        obtain ⟨Z, hZ, hr'⟩ := lenV_sound (ty := o.type) hr (nth0 ht') hv hXr
        exact ⟨Z, run (fun cs => by simp [builtin, hX, hZ]), hr'⟩
      case cap =>
        obtain ⟨x, hx, hv⟩ := args1_eq hv
        obtain ⟨X, hX, hXr⟩ := one hx
        rw [obind_eq] at hv
        obtain ⟨t, ht', hv⟩ := hv
        obtain ⟨Z, hZ, hr'⟩ := capV_sound (w := w) (ty := o.type) (nth0 ht') hv hXr
        exact ⟨Z, run (fun cs => by simp [builtin, hX, hZ]), hr'⟩
      case min =>
        obtain ⟨X, L, Z, h1, h2, h3⟩ := mm (f := imin) (g := Builtin.min2) (fun k k' x y => by simp only [Builtin.min2, imin_eq]) hv
        exact ⟨Z, run (fun cs => by simp only [builtin, Builtin.min_, h1]; simp [h2]), h3⟩
      case max =>
        obtain ⟨X, L, Z, h1, h2, h3⟩ := mm (f := imax) (g := Builtin.max2) (fun k k' x y => by simp only [Builtin.max2, imax_eq]) hv
        exact ⟨Z, run (fun cs => by simp only [builtin, Builtin.max_, h1]; simp [h2]), h3⟩
      case unsafeSliceData =>
        obtain ⟨x, hx, hv⟩ := args1_eq hv
        obtain ⟨X, hX, hXr⟩ := one hx
        split at hv
        · rename_i id off n cap sz
          obtain ⟨h1, hv⟩ := ok_eq.1 hv
          cases hv
          have hne : ¬ n = 0 := fun e0 => by subst e0; simp at h1
          simp only [VR] at hXr
          obtain ⟨A, cc, rfl, hnc, _, hp⟩ := hXr
          have hcc : cc ≠ 0 := by omega
          refine ⟨.pointer (some A), run (fun cs => by simp only [builtin, hX]; simp [Lib.run_unsafeSliceData_row w _ _ A n cc hcc]), ?_⟩
          simp only [VR]
          rcases hp with ⟨p, hp, ha, _⟩ | hp
          · exact .inl ⟨p, hp, by rw [ha (by omega)]⟩
          · exact .inr ⟨hp, A, rfl⟩
        · cases hv
    · split at hc <;> cases hc
    · cases hc
  case makeFunc f first cap => cases f <;> cases hc
  case defer c =>
    simp only [cd] at hc
    split at hc <;> cases hc
end
end Go.Ev


/- What makes a block. -/
namespace Go.Ev
section
variable {P : Program} {ρ : Ro} {st : St} {e : Env} {a : Act} {w : World}

theorem VRs.repeat {l : List V} {z : Array Value} (h : VRs ρ l z.toList) (n : Nat) : VRs ρ (repeatL l n) ((Array.range (n * z.size)).map fun i => z[i % z.size]!).toList := by
  obtain ⟨h1, h2⟩ := h.get
  have h1 : z.size = l.length := by simpa using h1
  refine VRs.of (by simp [repeatL_length, h1]) fun i v hv => ?_
  have hi : i < n * l.length := by rw [← repeatL_length]; exact (List.getElem?_eq_some_iff.1 hv).1
  rw [repeatL_get _ _ _ hi] at hv
  obtain ⟨x, hx, hr⟩ := h2 _ v hv
  refine ⟨x, ?_, hr⟩
  rw [Array.getElem?_toList] at hx
  have hpos : 0 < l.length := by
    rcases Nat.eq_zero_or_pos l.length with h0 | h0
    · rw [h0] at hi; simp at hi
    · exact h0
  have hlt : i % l.length < z.size := by rw [h1]; exact Nat.mod_lt _ hpos
  rw [Array.getElem?_toList, Array.getElem?_map, Array.getElem?_range, if_pos (by rw [h1]; exact hi)]
  simp only [Option.map_some, h1]
  congr 1
  rw [getElem!_pos z _ (by rw [← h1] at hlt ⊢; exact hlt)]
  rw [getElem?_pos z _ hlt] at hx
  cases hx
  rfl
theorem allOne_repeat {l : List V} (h : allOne l = true) (n : Nat) : allOne (repeatL l n) = true := by
  have app : ∀ {l m : List V}, allOne l = true → allOne m = true → allOne (l ++ m) = true := by
    intro l m
    induction l with
    | nil => intro _ h; exact h
    | cons v l ih =>
      intro h1 h2
      rw [allOne_cons] at h1
      simp only [Bool.and_eq_true] at h1
      rw [List.cons_append, allOne_cons, h1.1, ih h1.2 h2]
      rfl
  induction n with
  | zero => rfl
  | succ n ih => rw [repeatL_succ]; exact app h ih

/-- an element type's law -/
theorem elT_eq {u : TypeId} {el : El} (h : elT P u = some el) : el.e = u ∧ szT P u = some el.size ∧ bytesT P u = some el.bytes ∧ el.bytes ≠ 0 ∧ allOne el.zero = true ∧ el.zero.length = el.size ∧
    ∃ z : Value, (∀ w : World, (zeroValue u).run P w = .ok z w) ∧ z.cells.size = el.size ∧ ∀ ρ, VRs ρ el.zero z.cells.toList := by
  unfold elT at h
  rw [obind_eq] at h
  obtain ⟨s, hs, h⟩ := h
  rw [obind_eq] at h
  obtain ⟨b, hb, h⟩ := h
  rw [obind_eq] at h
  obtain ⟨z, hz, h⟩ := h
  obtain ⟨h1, h⟩ := ok_eq.1 h
  obtain ⟨h2, h⟩ := ok_eq.1 h
  obtain ⟨h3, h⟩ := ok_eq.1 h
  cases h
  have h1 := Nat.eq_of_beq_eq_true h1
  rw [len_eq] at h1
  obtain ⟨zx, hzx, _, hzr⟩ := r_zero hz (fun _ => none)
  refine ⟨rfl, hs, hb, fun e0 => by subst e0; simp at h3, h2, h1, zx, hzx, ?_, fun ρ => (hzr ρ).cells⟩
  have := (hzr (fun _ => none)).cells.get.1
  simp at this
  show zx.cells.size = s
  omega
theorem elOf_eq {t : TypeId} {el : El} (h : elOf P t = some el) : P.underlying t = some (.slice el.e) ∧ elT P el.e = some el := by
  unfold elOf at h
  rw [obind_eq] at h
  obtain ⟨u, hu, h⟩ := h
  have := (elT_eq h).1
  subst this
  exact ⟨elemT_eq hu, h⟩
theorem r_bytes {u : TypeId} {b : Nat} (h : bytesT P u = some b) (w : World) : ∃ i, (typeInfo u).run P w = .ok i w ∧ i.bytes = b := by
  unfold bytesT at h
  split at h
  · rename_i i hi; cases h; exact ⟨i, r_info hi w, rfl⟩
  · cases h

/-- a new row of cells -/
theorem BR.new {l : Tr V} {cs : Array Value} {n : Nat} {t : TypeId} (h : CR ρ n l cs) (id r : Nat) (h0 : ρ id = none) : BR P (ρ.set id (some ⟨r, 0, n, true⟩)) ⟨r, 0, n, true⟩ (.cells .free (some t) n l) (.cells cs t) := by
  refine ⟨rfl, cs, t, (0, 0), rfl, h.1, by simp, fun i v hi hv => ?_, rfl, fun u hu => by cases hu; exact ⟨rfl, rfl⟩⟩
  obtain ⟨h1, x, hx, hr⟩ := h.2 i v hi hv
  exact ⟨h1, x, by simpa using hx, hr.mono (Ro.le_set _ h0)⟩

theorem make_sound {xt : FuncId → Option XK} {o : Oper} (ht : HO P ρ e a o) {H : HA} {q : B × (Nat → V)} (hc : cd P xt o.op = .make H) (hv : H e = some q) :
    ∃ (obj : Obj) (X : Nat → Value) (n : Nat) (c : Bool), (∀ w : World, (execOp a.eval o).run P w = .ok (.value (X w.heap.size)) (w.alloc obj)) ∧
      ∀ id r, ρ id = none → BR P (ρ.set id (some ⟨r, 0, n, c⟩)) ⟨r, 0, n, c⟩ q.1 obj ∧ VR (ρ.set id (some ⟨r, 0, n, c⟩)) (q.2 id) (X r) := by
  cases ho : o.op <;> rw [ho] at hc <;> first | (cases hc; done) | skip
  case alloc t =>
    cases hc
    unfold aAlloc at hv
    rw [obind_eq] at hv
    obtain ⟨z, hz, hv⟩ := hv
    obtain ⟨h1, hv⟩ := ok_eq.1 hv
    cases hv
    obtain ⟨zx, hzx, hzr, _⟩ := r_zero hz ρ
    have hcr := CR.of hzr.cells h1
    refine ⟨.cells zx.cells t, fun r => .pointer (some ⟨r, 0, none⟩), z.cells.length, true, fun w => ?_, fun id r h0 => ⟨by rw [len_eq]; exact BR.new hcr id r h0, ?_⟩⟩
    · simp only [execOp, ho]
      simp [Instr.alloc, hzx, newVar, newRow]
    · simp only [VR, Ro.set_same]
      exact .inl ⟨_, rfl, rfl⟩
  case box t x =>
    cases hc
    unfold aBox at hv
    rw [obind_eq] at hv
    obtain ⟨z, hz, hv⟩ := hv
    obtain ⟨h1, hv⟩ := ok_eq.1 hv
    cases hv
    have hzr := ht _ (by simp [ho, Op.operands]) _ hz
    have hcr := CR.of hzr.cells h1
    refine ⟨.cells (a.eval x).cells t, fun r => .pointer (some ⟨r, 0, none⟩), z.cells.length, true, fun w => ?_, fun id r h0 => ⟨by rw [len_eq]; exact BR.new hcr id r h0, ?_⟩⟩
    · simp only [execOp, ho]
      simp [Instr.box, newVar, newRow]
    · simp only [VR, Ro.set_same]
      exact .inl ⟨_, rfl, rfl⟩
  case buildSlice t n ps =>
    cases hc
    unfold aBuildSlice at hv
    rw [obind_eq] at hv
    obtain ⟨l, hl, hv⟩ := hv
    rw [obind_eq] at hv
    obtain ⟨el, hel, hv⟩ := hv
    obtain ⟨h1, hv⟩ := ok_eq.1 hv
    rw [obind_eq] at hv
    obtain ⟨c, hc, hv⟩ := hv
    cases hv
    obtain ⟨hu, hel⟩ := elOf_eq hel
    obtain ⟨_, hs, _, _, h2, h3, z, hz, hzs, hzr⟩ := elT_eq hel
    have hlt : n * el.size ≤ 16777216 := Nat.le_of_ble_eq_true h1
    have hps := partsOf_sound (f := a.eval) (fun x hx => ht x (by rw [ho]; exact hx)) hl
    have hcr := CR.of (VRs.repeat (hzr ρ) n) (allOne_repeat h2 n)
    rw [repeatL_length, h3, hzs] at hcr
    obtain ⟨cs', h5, h6⟩ := fillL_sound (pl' := fun i => some (i * el.size, el.size)) (fun i q hq => hq) hc hps hcr
    refine ⟨.cells cs' el.e, fun r => .slice (some ⟨r, 0, none⟩) n n, n * el.size, true, fun w => ?_, fun id r h0 => ⟨BR.new h6 id r h0, ?_⟩⟩
    · simp only [execOp, ho, Instr.buildSlice, Sem.run_bind, r_under hu, Result.andThen_ok, r_size hs]
      have hgt : ¬ n * el.size > 2 ^ 24 := by omega
      have h7 : Instr.fill (fun i => some (i * el.size, el.size)) ((Array.range (n * el.size)).map ((if n * el.size = 0 then #[] else z.cells)[· % (if n * el.size = 0 then #[] else z.cells).size]!)) (ps.map fun (i, x) => (i, a.eval x)).toList = some cs' := by
        rw [← h5]
        congr 1
        · split
          · rename_i h0; rw [h0]; simp
          · rw [hzs]
        · rw [Array.toList_map]
      simp only [Sem.run_ite, if_neg hgt, Sem.run_bind, Sem.run_pure, Result.andThen_ok]
      by_cases h0 : n * el.size = 0
      · simp only [if_pos h0] at h7 ⊢
        rw [h7]
        simp [newRow]
      · simp only [if_neg h0, Result.andThen_ok, hz] at h7 ⊢
        rw [h7]
        simp [newRow]
    · simp only [VR, Ro.set_same]
      exact ⟨_, n, rfl, Nat.le_refl _, fun k hk => by cases hk; rfl, .inl ⟨_, rfl, fun _ => rfl, by simp⟩⟩
  case makeMap t r =>
    cases hc
    unfold aMkMap at hv
    have fin : ∀ {q : B × (Nat → V)}, some (B.map [] 0, fun id => V.map id) = some q → (∀ w : World, (execOp a.eval o).run P w = .ok (.value (.map (some w.heap.size))) (w.alloc (.map #[] 0))) → ∃ (obj : Obj) (X : Nat → Value) (n : Nat) (c : Bool), (∀ w : World, (execOp a.eval o).run P w = .ok (.value (X w.heap.size)) (w.alloc obj)) ∧
      ∀ id r, ρ id = none → BR P (ρ.set id (some ⟨r, 0, n, c⟩)) ⟨r, 0, n, c⟩ q.1 obj ∧ VR (ρ.set id (some ⟨r, 0, n, c⟩)) (q.2 id) (X r) := by
      intro q hq hrun
      cases hq
      refine ⟨.map #[] 0, fun r => .map (some r), 0, false, hrun, fun id r h0 => ⟨⟨rfl, #[], rfl, rfl⟩, ?_⟩⟩
      simp only [VR, Ro.set_same]
      exact .inl ⟨_, rfl, rfl⟩
    cases r with
    | none => exact fin hv fun w => by simp only [execOp, ho]; simp [Instr.makeMap]
    | some r =>
      simp only at hv
      rw [obind_eq] at hv
      obtain ⟨m, hm, hv⟩ := hv
      rw [obind_eq] at hv
      obtain ⟨x, hx, hv⟩ := hv
      obtain ⟨k, i, rfl, hv⟩ := vint_eq hv
      have := ht _ (by simp [ho, Op.operands]) _ hx
      simp only [VR] at this
      exact fin hv fun w => by simp only [execOp, ho]; simp [Instr.makeMap, r_under (mapT_eq hm), this, asInt, asIntOf]
  case convert s d x =>
    simp only [cd, cdConvert] at hc
    split at hc <;> first | (cases hc; done) | (split at hc <;> cases hc)
  case makeFunc f first cap => cases f <;> cases hc
  case slice t x lo hi mx =>
    simp only [cd] at hc
    split at hc
    · split at hc <;> cases hc
    · cases hc
  case binOp op t x y u => cases op <;> cases hc
  case call c =>
    simp only [cd, cdCall] at hc
    split at hc <;> first | (cases hc; done) | (split at hc <;> cases hc)
  case defer c =>
    simp only [cd] at hc
    split at hc <;> cases hc
end
end Go.Ev


/- What acts: writing cells; rows that grow. -/
namespace Go.Ev
section
variable {P : Program} {ρ : Ro} {st : St} {e : Env} {a : Act} {w : World}

theorem VR.one {v : V} {x : Value} (h : VR ρ v x) (hm : v.many = false) : x.oneCell' = true := by
  cases v <;> simp only [VR] at h <;> first
    | (cases hm; done)
    | (subst h; rfl)
    | (obtain ⟨_, rfl⟩ := h; rfl)
    | (rcases h with ⟨_, _, rfl⟩ | ⟨_, _, rfl⟩ <;> rfl)
    | (obtain ⟨_, _, rfl, _⟩ := h; rfl)
    | (obtain ⟨_, rfl, _⟩ := h; rfl)

theorem ones {l : List V} {xs : List Value} (h : VRs ρ l xs) (ho : allOne l = true) : ∀ x ∈ xs, x.oneCell' = true := by
  intro x hx
  obtain ⟨i, hi, rfl⟩ := List.getElem_of_mem hx
  obtain ⟨h1, h2⟩ := h.get
  have hi' : i < l.length := by omega
  obtain ⟨y, hy, hr⟩ := h2 i l[i] (List.getElem?_eq_getElem hi')
  rw [List.getElem?_eq_getElem hi] at hy
  cases hy
  exact hr.one (allOne_get ho (List.getElem?_eq_getElem hi'))

/-- so many cells put over a row's -/
def over' (off : Nat) (l : List Value) (k : Nat) (cs : Array Value) : Array Value := (l.zipIdx k).foldl (fun cs (c, j) => cs.setIfInBounds (off + j) c) cs
theorem over'_cons (off : Nat) (x : Value) (l : List Value) (k : Nat) (cs : Array Value) : over' off (x :: l) k cs = over' off l (k + 1) (cs.setIfInBounds (off + k) x) := by
  simp [over', List.zipIdx_cons]

theorem setCell_row {r i : Nat} {c : Array Value} {el : TypeId} {fz : Nat × Nat} (h : w.heap[r]? = some (.cells c el fz)) (v : Value) :
    w.setCell ⟨r, i, none⟩ v = { w with heap := w.heap.setIfInBounds r (.cells (c.setIfInBounds i v) el fz) } := by
  unfold World.setCell
  congr 1
  apply Array.ext_getElem?
  intro j
  rw [Array.getElem?_modify, Array.getElem?_setIfInBounds]
  by_cases hj : r = j
  · subst hj
    have hlt := (Array.getElem?_eq_some_iff.1 h).1
    rw [if_pos rfl, if_pos rfl, if_pos hlt, h]
    rfl
  · simp [hj]

theorem r_storeCells (r o : Nat) (el : TypeId) (fz : Nat × Nat) : ∀ (xs : List Value) (k : Nat) (c : Array Value) (w : World), w.heap[r]? = some (.cells c el fz) →
    (∀ i, o + k ≤ i → i < o + k + xs.length → i < c.size ∧ ¬ (fz.1 ≤ i ∧ i < fz.2)) → (∀ x ∈ xs, x.oneCell' = true) →
    (storeCells ⟨r, o, none⟩ xs k).run P w = .ok () { w with heap := w.heap.setIfInBounds r (.cells (over' o xs k c) el fz) }
  | [], k, c, w, h, _, _ => by
    simp only [storeCells, Sem.run_pure, over', List.zipIdx_nil, List.foldl_nil]
    congr 1
    have : w.heap.setIfInBounds r (.cells c el fz) = w.heap := by
      apply Array.ext_getElem?
      intro j
      rw [Array.getElem?_setIfInBounds]
      split
      · rename_i hj; subst hj
        have hlt := (Array.getElem?_eq_some_iff.1 h).1
        rw [if_pos hlt, h]
      · rfl
    rw [this]
  | x :: xs, k, c, w, h, hi, ho => by
    have h0 := hi (o + k) (Nat.le_refl _) (by simp)
    have hcell : w.cell? ⟨r, o + k, none⟩ = some c[o + k] := by rw [World.cell_at h]; exact Array.getElem?_eq_getElem h0.1
    have hfro : w.frozen? ⟨r, o + k, none⟩ = false := by
      obtain ⟨lo, hi'⟩ := fz
      have := h0.2
      simp only [World.frozen?, h, Bool.and_eq_false_iff, decide_eq_false_iff_not]
      simp only at this
      omega
    have hst : (store ((⟨r, o, none⟩ : Addr).add k) x).run P w = .ok () { w with heap := w.heap.setIfInBounds r (.cells (c.setIfInBounds (o + k) x) el fz) } := by
      rw [Addr.add_off, run_store P w _ x _ (ho x (by simp)), hcell]
      simp only [hfro, Bool.false_eq_true, if_false, setCell_row h]
    have hlt := (Array.getElem?_eq_some_iff.1 h).1
    have ih := r_storeCells r o el fz xs (k + 1) (c.setIfInBounds (o + k) x) { w with heap := w.heap.setIfInBounds r (.cells (c.setIfInBounds (o + k) x) el fz) } (by simp [hlt])
      (fun i h1 h2 => by have := hi i (by omega) (by simp only [List.length_cons]; omega); simpa using this) (fun y hy => ho y (by simp [hy]))
    simp only [storeCells, Sem.run_bind, hst, Result.andThen_ok, ih, over'_cons]
    congr 2
    apply Array.ext_getElem?
    intro j
    simp only [Array.getElem?_setIfInBounds, Array.size_setIfInBounds]
    split <;> rfl

/-- where a row's cells may be written -/
theorem FzOk.may {z : Fz} {fz : Nat × Nat} {n : Nat} (h : FzOk z fz n) (hw : wrt z = true) {i : Nat} (hi : i < n) : ¬ (fz.1 ≤ i ∧ i < fz.2) := by
  cases z with
  | free => simp only [FzOk] at h; subst h; simp
  | str => exact h i hi
  | ro => cases hw
  | gl => cases hw

theorem COk.over {o n off : Nat} {t : Tr V} {c : Array Value} {l : List V} {xs : List Value} (h : COk ρ o n t c) (hx : VRs ρ l xs) (ho : allOne l = true) (hl : o + off + l.length ≤ c.size) :
    COk ρ o n (.fill l t off) (over' (o + off) xs 0 c) ∧ (over' (o + off) xs 0 c).size = c.size := by
  obtain ⟨h1, h2⟩ := set_cells (o + off) xs 0 c
  obtain ⟨k1, k2⟩ := hx.get
  refine ⟨fun i v hi hv => ?_, h1⟩
  unfold over'
  rw [h2]
  rw [Tr.get_fill] at hv
  split at hv
  · rename_i hin
    rw [if_pos ⟨by omega, by omega, by omega⟩]
    obtain ⟨x, hx, hr⟩ := k2 _ v hv
    exact ⟨allOne_get ho hv, x, by rw [← hx]; congr 1; omega, hr⟩
  · rename_i hin
    rw [if_neg (by omega)]
    exact h i v hi hv

/-- cells are written -/
theorem RH.write (hr : RH P ρ st w.heap) {id off : Nat} {p : Pl} {z : Fz} {e : Option TypeId} {n : Nat} {t : Tr V} {l : List V} {xs : List Value} (hp : ρ id = some (some p)) (hb : st.h.get id = some (.cells z e n t))
    (hw : wrt z = true) (hx : VRs ρ l xs) (ho : allOne l = true) (hn : off + l.length ≤ n) :
    ∃ w', (storeCells ⟨p.r, p.o + off, none⟩ xs).run P w = .ok () w' ∧ RH P ρ (st.upd id (.cells z e n (.fill l t off))) w'.heap ∧ Ext ρ st w ρ (st.upd id (.cells z e n (.fill l t off))) w' := by
  obtain ⟨c, el, fz, hh, hpc, hcs, hpn, hc, hfz, he⟩ := hr.cells hp hb
  have hlen := hx.get.1
  refine ⟨{ w with heap := w.heap.setIfInBounds p.r (.cells (over' (p.o + off) xs 0 c) el fz) }, r_storeCells p.r (p.o + off) el fz xs 0 c w hh (fun i h1 h2 => ⟨by omega, hfz.may hw (by omega)⟩) (ones hx ho), ?_, ?_⟩
  · obtain ⟨h1, h2⟩ := hc.over hx ho (off := off) (by omega)
    exact hr.turn hp ⟨hpc, _, el, fz, rfl, by rw [h2, hcs], hpn, h1, by rw [h2]; exact hfz, he⟩
  · exact Ext.turn hr hp hb fun e' n' t' h => by cases h; cases hw

/-- what an operation that acts does -/
def NxOk (P : Program) (ρ : Ro) (st : St) (w : World) (r : Result Next) : Nx → Prop
  | .val v st' => ∃ (nx : Next) (X : Value) (w' : World) (ρ' : Ro), r = .ok nx w' ∧ (nx = .value X ∨ (nx = .skip ∧ X = undef)) ∧ VR ρ' v X ∧ RH P ρ' st' w'.heap ∧ Ext ρ st w ρ' st' w'
  | .call f args => ∃ A, r = .ok (.enter f A) w ∧ VRs ρ args A.toList
  | .round id args => ∃ l A, VR ρ (.yield id) (.func (.yield l) #[] #[]) ∧ VRs ρ args A.toList ∧ r = (Instr.yield l A).run P w
  | .dfr f args => ∃ g c A, r = .ok (.defer { target := .fn (.func g) c, args := A }) w ∧ g = f ∧ VRs ρ args (A ++ c).toList

theorem VR.unit : VR ρ (.tup []) undef := by simp only [VR]; exact ⟨#[], rfl, VRs.nil⟩

theorem store_sound (hr : RH P ρ st w.heap) {t : TypeId} {id off s : Nat} {x : V} {A X : Value} {nx : Nx} (hs : szT P t = some s) (h : storeL st id off s x.cells = some nx) (ha : VR ρ (.ptr id off) A) (hx : VR ρ x X) :
    NxOk P ρ st w (((Instr.storeAt t A X) >>= fun _ => pure Next.skip : Sem Next).run P w) nx := by
  unfold storeL at h
  obtain ⟨z, el, n, c, hb, h⟩ := cellsAt_eq h
  obtain ⟨h1, h⟩ := ok_eq.1 h
  obtain ⟨h2, h⟩ := ok_eq.1 h
  obtain ⟨h3, h⟩ := ok_eq.1 h
  obtain ⟨h4, h⟩ := ok_eq.1 h
  cases h
  have h2 := Nat.eq_of_beq_eq_true h2
  rw [len_eq] at h2
  have h4 : off + s ≤ n := Nat.le_of_ble_eq_true h4
  obtain ⟨p, hp, rfl⟩ := ha.ptr_at hr hb
  have hxc := hx.cells
  obtain ⟨w', h5, h6, h7⟩ := hr.write (P := P) (off := off) hp hb h1 hxc h3 (by omega)
  have hlen : X.cells.size = s := by have := hxc.get.1; simp at this; omega
  refine ⟨.skip, undef, w', ρ, ?_, .inr ⟨rfl, rfl⟩, VR.unit, h6, h7⟩
  simp [Instr.storeAt, Instr.sureAddr, storeVar, r_size hs, hlen, h5]
end
end Go.Ev


/- What acts: rows that grow. -/
namespace Go.Ev
section
variable {P : Program} {ρ : Ro} {st : St} {e : Env} {a : Act} {w : World}

theorem lenOf_sound {v : V} {X : Value} {n : Nat} (h : lenOf v = some n) (hx : VR ρ v X) : (Builtin.lenOf X).run P w = .ok n w := by
  unfold lenOf at h
  split at h <;> cases h
  · simp only [VR] at hx; obtain ⟨_, _, rfl, _⟩ := hx; rfl
  · simp only [VR] at hx; subst hx; rfl
  · simp only [VR] at hx; obtain ⟨_, rfl⟩ := hx; simp [Builtin.lenOf, len_eq]

theorem bytesV_sound {s : List Nat} (hs : small s) : VRs ρ (bytesV s) (s.map fun (b : Nat) => Value.int .u8 (b : Int)) ∧ allOne (bytesV s) = true ∧ (bytesV s).length = s.length := by
  induction s with
  | nil => exact ⟨VRs.nil, rfl, rfl⟩
  | cons b s ih =>
    obtain ⟨h1, h2, h3⟩ := ih fun x hx => hs x (by simp [hx])
    refine ⟨VRs.cons (by simp only [VR]; rfl) h1, ?_, ?_⟩
    · rw [show bytesV (b :: s) = .int .u8 (Int.ofNat b) :: bytesV s from rfl, allOne_cons, h2]; rfl
    · rw [show bytesV (b :: s) = .int .u8 (Int.ofNat b) :: bytesV s from rfl, List.length_cons, h3]; rfl
theorem cells_strOf {s : List Nat} (hs : small s) : ((strOf s).data.map fun b => Value.int .u8 b.toNat).toList = s.map fun (b : Nat) => Value.int .u8 (b : Int) := by
  simp only [Array.toList_map, strOf, List.map_map]
  refine List.map_congr_left fun b hb => ?_
  have := hs b hb
  simp [Nat.mod_eq_of_lt this]

theorem firstCells_sound (hr : RH P ρ st w.heap) {v : V} {X : Value} {size n : Nat} {l : List V} (h : Ev.firstCells st size n v = some l) (hx : VR ρ v X) :
    ∃ xs : List Value, (∀ w' : World, w'.heap = w.heap → (Builtin.firstCells size n X).run P w' = .ok xs.toArray w') ∧ VRs ρ l xs ∧ allOne l = true ∧ l.length = n * size := by
  unfold Ev.firstCells at h
  split at h
  · rename_i id off m cap sz
    obtain ⟨h1, h⟩ := ok_eq.1 h
    obtain rfl := Nat.eq_of_beq_eq_true h1
    obtain ⟨h2, h⟩ := ok_eq.1 h
    obtain ⟨z, el, k, c, hb, h⟩ := cellsAt_eq h
    obtain ⟨h3, h⟩ := ok_eq.1 h
    have h2 : n ≤ m := Nat.le_of_ble_eq_true h2
    obtain ⟨p, A, cp, hp, rfl, hnc, _, hA, _⟩ := hx.slice_at hr hb
    obtain ⟨cs, el', fz, hh, _, _, _, hc, _⟩ := hr.cells hp hb
    obtain ⟨xs, h4, h5, h6, h7⟩ := hc.row h (Nat.le_of_ble_eq_true h3)
    refine ⟨xs, fun w' hw' => ?_, h4, h7, (Tr.row_eq h).1⟩
    show (loadCells A (n * sz)).run P w' = _
    rw [← hw'] at hh
    by_cases h0 : n * sz = 0
    · have h5' : xs.length = 0 := by rw [h5]; exact h0
      obtain rfl := List.eq_nil_of_length_eq_zero h5'
      rw [h0]
      rfl
    · have hn0 : 0 < n := Nat.pos_of_ne_zero fun e0 => h0 (by rw [e0, Nat.zero_mul])
      have h5' : n * sz = xs.length := h5.symm
      rw [hA (by omega), h5', r_loadCells hh h6]
  · obtain ⟨h1, h⟩ := ok_eq.1 h
    cases h
    obtain rfl := Nat.eq_of_beq_eq_true h1
    simp only [VR] at hx
    subst hx
    exact ⟨[], fun _ _ => rfl, VRs.nil, rfl, by simp⟩
  · rename_i s
    obtain ⟨h1, h9⟩ := ok_eq.1 h
    obtain rfl := Nat.eq_of_beq_eq_true h1
    obtain ⟨h2, h8⟩ := ok_eq.1 h9
    cases h8
    have h2 : n ≤ s.length := by have := Nat.le_of_ble_eq_true h2; rwa [len_eq] at this
    simp only [VR] at hx
    obtain ⟨hs, rfl⟩ := hx
    rw [take_eq]
    obtain ⟨h3, h4, h5⟩ := bytesV_sound (ρ := ρ) (small_take hs n)
    refine ⟨_, fun w' _ => ?_, h3, h4, by rw [h5, List.length_take]; omega⟩
    show Result.ok (((strOf s).extract 0 n).data.map fun b => Value.int .u8 b.toNat) w' = _
    congr 1
    apply Array.toList_inj.1
    rw [strOf_extract, cells_strOf (by rw [Nat.sub_zero]; exact small_take (small_drop hs 0) n)]
    simp
  · cases h

/-- how many are appended, and the cells -/
theorem newOf_sound {el : El} {xt : TypeId} {x : V} {k : Nat → List V → Option Nx} {nx : Nx} (h : newOf P st el xt x k = some nx) :
    ∃ b n l, isIntT P xt = some b ∧ k n l = some nx ∧
      ((b = true ∧ ∃ kk, x = .int kk (n : Int) ∧ n ≤ 1073741824 ∧ l = repeatL el.zero n) ∨ (b = false ∧ lenOf x = some n ∧ Ev.firstCells st el.size n x = some l)) := by
  unfold newOf at h
  rw [obind_eq] at h
  obtain ⟨b, hb, h⟩ := h
  cases b with
  | true =>
    rw [sel_true] at h
    obtain ⟨kk, m, rfl, h⟩ := natOf_eq h
    obtain ⟨h1, h⟩ := ok_eq.1 h
    exact ⟨true, m, _, hb, h, .inl ⟨rfl, kk, rfl, Nat.le_of_ble_eq_true h1, rfl⟩⟩
  | false =>
    rw [sel_false, obind_eq] at h
    obtain ⟨n, hn, h⟩ := h
    rw [obind_eq] at h
    obtain ⟨l, hl, h⟩ := h
    exact ⟨false, n, l, hb, h, .inr ⟨rfl, hn, hl⟩⟩

theorem isIntT_run {t : TypeId} {b : Bool} (h : isIntT P t = some b) : ∃ d, P.underlying t = some d ∧ ((b = true ∧ ∃ k, d = .int k) ∨ (b = false ∧ ∀ k, d ≠ .int k)) := by
  unfold isIntT at h
  split at h
  · rename_i k hu; cases h; exact ⟨_, hu, .inl ⟨rfl, k, rfl⟩⟩
  · rename_i d h1 hu
    cases h
    exact ⟨d, hu, .inr ⟨rfl, fun k hk => h1 k hk⟩⟩
  · cases h

theorem growBy_le (need : Nat) : ∀ (r c : Nat), c < need → Builtin.growBy need r c ≤ 2 * need + 1000
  | 0, c, h => by simp only [Builtin.growBy]; omega
  | r + 1, c, h => by
    simp only [Builtin.growBy]
    rw [if_neg (by omega)]
    by_cases hn : c + (c + 768) / 4 < need
    · exact growBy_le need r _ hn
    · cases r with
      | zero => simp only [Builtin.growBy]; omega
      | succ r => simp only [Builtin.growBy]; rw [if_pos (by omega)]; omega
theorem nextslicecap_le {need c : Nat} (h : c < need) : Builtin.nextslicecap need c ≤ 2 * need + 1000 := by
  unfold Builtin.nextslicecap
  split
  · omega
  · split
    · omega
    · exact growBy_le need 4 c h

/-- what the model's append comes to -/
theorem r_append {ts : Array TypeId} {ty t xt elem : TypeId} {size n sLen sCap : Nat} {base : Option Addr} {X : Value} {d : TypeDesc} {z : Value} {new : List Value} {b : Bool} {i : TypeInfo}
    (ht : ts[0]? = some t) (hxt : ts[1]? = some xt) (hu : P.underlying t = some (.slice elem)) (hd : P.underlying xt = some d) (hb : (b = true ∧ ∃ k, d = .int k) ∨ (b = false ∧ ∀ k, d ≠ .int k))
    (hs : ∀ w : World, (sizeOf elem).run P w = .ok size w) (hi : ∀ w : World, (typeInfo elem).run P w = .ok i w) (hb0 : i.bytes ≠ 0)
    (hz : ∀ w : World, (zeroValue elem).run P w = .ok z w)
    (hn : (b = true ∧ (∃ kk, X = .int kk (n : Int)) ∧ n ≤ 1073741824 ∧ new = (Builtin.zeroCells z.cells n).toList ∧ n * size = new.length) ∨ (b = false ∧ (Builtin.lenOf X).run P w = .ok n w ∧ ∀ w' : World, w'.heap = w.heap → (Builtin.firstCells size n X).run P w' = .ok new.toArray w'))
    (hroom : (2 * (sLen + n) + 1000) * i.bytes ≤ 140737488355328) :
    (sLen + n ≤ sCap → (Builtin.append_ ts ty #[.slice base sLen sCap, X]).run P w =
      ((match base with | some a => storeCells (a.add (sLen * size)) new | none => pure ()).run P w).andThen fun _ w' => .ok (.slice base (sLen + n) sCap) w') ∧
    (¬ sLen + n ≤ sCap → ∀ old : List Value, (∀ w' : World, w'.heap = w.heap → (Builtin.firstCells size sLen (.slice base sLen sCap)).run P w' = .ok old.toArray w') → ∃ cap, sLen + n ≤ cap ∧ (Builtin.append_ ts ty #[.slice base sLen sCap, X]).run P w =
      .ok (.slice (some ⟨w.heap.size, 0, none⟩) (sLen + n) cap) (w.drew.alloc (.cells (old.toArray ++ new.toArray ++ Builtin.zeroCells z.cells (cap - (sLen + n))) elem))) := by
  have hnew : ∀ {w' : World}, w'.heap = w.heap → ((if (!b) = true then Builtin.firstCells size n X else if n * size = 0 then pure #[] else do pure (Builtin.zeroCells (← zeroValue elem).cells n)) : Sem (Array Value)).run P w' = .ok new.toArray w' := by
    intro w' hw'
    rcases hn with ⟨rfl, _, hle, h1, h2⟩ | ⟨rfl, _, hl⟩
    · simp only [Bool.not_true, Bool.false_eq_true, if_false, Sem.run_ite, Sem.run_pure, Sem.run_bind, hz, Result.andThen_ok]
      split
      · rename_i h0
        have : new = [] := List.eq_nil_of_length_eq_zero (by omega)
        rw [this]
      · rw [h1]
    · simp only [Bool.not_false, if_true]
      exact hl w' hw'
  have hnb : ¬ ((sLen + n : Nat) : Int) > IntKind.i64.max := by
    have h1 : sLen + n ≤ (2 * (sLen + n) + 1000) * i.bytes := Nat.le_trans (by omega : sLen + n ≤ 2 * (sLen + n) + 1000) (Nat.le_mul_of_pos_right _ (Nat.pos_of_ne_zero hb0))
    have h2 : IntKind.i64.max = 9223372036854775807 := by decide
    rw [h2]
    omega
  have hint : b = true → IntKind.i64.wrap (n : Int) = n ∧ ¬ ((n : Int) < 0) ∧ ¬ ((n : Int) * (i.bytes : Int) > 2 ^ 48) := by
    intro hbt
    rcases hn with ⟨_, ⟨kk, rfl⟩, hle', _⟩ | ⟨h0, _⟩
    · refine ⟨wrap_s .i64 rfl n (by simp [kmax]) (by simp [kmax]; try omega), by omega, ?_⟩
      have h3 : n * i.bytes ≤ (2 * (sLen + n) + 1000) * i.bytes := Nat.mul_le_mul_right _ (by omega)
      have h4 : n * i.bytes ≤ 140737488355328 := Nat.le_trans h3 hroom
      have h5 : (n : Int) * (i.bytes : Int) = ((n * i.bytes : Nat) : Int) := by simp
      rw [h5]
      omega
    · rw [hbt] at h0; cases h0
  constructor
  · intro hle
    rcases hb with ⟨rfl, k, rfl⟩ | ⟨rfl, h⟩
    · rcases hn with ⟨_, ⟨kk, rfl⟩, hle', h1, h2⟩ | ⟨h0, _⟩
      · obtain ⟨hw, h1, h2⟩ := hint rfl
        simp only [Builtin.append_, ht, hxt, Sem.run_bind, r_under hu, r_under hd, Result.andThen_ok, hs, Sem.run_pure, List.getElem?_toArray, List.getElem?_cons_zero, List.getElem?_cons_succ]
        simp only [if_true, asInt, asIntOf, Sem.run_bind, Sem.run_pure, Result.andThen_ok, hw, if_neg h1, hi, if_neg h2, Int.toNat_natCast, if_pos hle]
        rw [hnew rfl]
        cases base <;> simp
      · cases h0
    · rcases hn with ⟨h0, _⟩ | ⟨_, hl, _⟩
      · cases h0
      · cases d <;> first | (exact absurd rfl (h _)) | skip
        all_goals
          simp only [Builtin.append_, ht, hxt, Sem.run_bind, r_under hu, r_under hd, Result.andThen_ok, hs, Sem.run_pure, List.getElem?_toArray, List.getElem?_cons_zero, List.getElem?_cons_succ]
          simp only [Bool.false_eq_true, if_false, Sem.run_bind, Result.andThen_ok, hl, if_pos hle]
          rw [hnew rfl]
          cases base <;> simp
  · intro hgt old hold
    have hcap : ¬ Builtin.nextslicecap (sLen + n) sCap * i.bytes > 2 ^ 48 := by
      have h1 : Builtin.nextslicecap (sLen + n) sCap * i.bytes ≤ (2 * (sLen + n) + 1000) * i.bytes := Nat.mul_le_mul_right _ (nextslicecap_le (by omega))
      omega
    refine ⟨(Question.appendCap (sLen + n) sCap elem).cut (w.tape w.drawn (.appendCap (sLen + n) sCap elem)), by simp only [Question.cut]; omega, ?_⟩
    rcases hb with ⟨rfl, k, rfl⟩ | ⟨rfl, h⟩
    · rcases hn with ⟨_, ⟨kk, rfl⟩, hle', h1, h2⟩ | ⟨h0, _⟩
      · obtain ⟨hw, h1, h2⟩ := hint rfl
        simp only [Builtin.append_, ht, hxt, Sem.run_bind, r_under hu, r_under hd, Result.andThen_ok, hs, Sem.run_pure, List.getElem?_toArray, List.getElem?_cons_zero, List.getElem?_cons_succ]
        simp only [if_true, asInt, asIntOf, Sem.run_bind, Sem.run_pure, Result.andThen_ok, hw, if_neg h1, hi, if_neg h2, Int.toNat_natCast, if_neg hgt, hnb, false_and, if_false, if_neg hcap, run_choose, Question.forced, Bool.false_eq_true, run_askRoom]
        rw [hold { heap := w.heap, tape := w.tape, drawn := w.drawn + 1, os := w.os, output := w.output } rfl]
        simp only [Result.andThen_ok]
        rw [hnew (w' := { heap := w.heap, tape := w.tape, drawn := w.drawn + 1, os := w.os, output := w.output }) rfl]
        simp only [Result.andThen_ok, hz, newRow, Sem.run_bind, run_newObj, Sem.run_pure]
        rfl
      · cases h0
    · rcases hn with ⟨h0, _⟩ | ⟨_, hl, _⟩
      · cases h0
      · cases d <;> first | (exact absurd rfl (h _)) | skip
        all_goals
          simp only [Builtin.append_, ht, hxt, Sem.run_bind, r_under hu, r_under hd, Result.andThen_ok, hs, Sem.run_pure, List.getElem?_toArray, List.getElem?_cons_zero, List.getElem?_cons_succ]
          simp only [Bool.false_eq_true, if_false, Sem.run_bind, Sem.run_pure, Result.andThen_ok, hl, if_neg hgt, hnb, false_and, hi, if_neg hcap, run_choose, Question.forced, run_askRoom]
          rw [hold { heap := w.heap, tape := w.tape, drawn := w.drawn + 1, os := w.os, output := w.output } rfl]
          simp only [Result.andThen_ok]
          rw [hnew (w' := { heap := w.heap, tape := w.tape, drawn := w.drawn + 1, os := w.os, output := w.output }) rfl]
          simp only [Result.andThen_ok, hz, newRow, Sem.run_bind, run_newObj, Sem.run_pure]
          rfl
end
end Go.Ev

