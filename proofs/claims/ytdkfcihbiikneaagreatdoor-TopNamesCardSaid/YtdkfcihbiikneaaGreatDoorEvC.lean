/- The evaluator: maps, strings over bytes, calls without a body, regions are sound. It holds without any condition on the inputs. -/
import Derived.Test.YtdkfcihbiikneaaGreatDoorEvB
import Derived.Conc.AtomicLaws2
import Derived.Laws.Externs
import GoSem.Extern.Table
import Derived.RangeFuncLeaves
import Derived.RangeFuncRecord
import Derived.OrdersIn
/- What acts: append, copy, clear. -/
namespace Go.Ev
section
variable {P : Program} {ρ : Ro} {st : St} {e : Env} {a : Act} {w : World}

theorem info_bytes {u : TypeId} {b : Nat} (h : bytesT P u = some b) : ∃ i, P.info? u = some i ∧ i.bytes = b := by
  unfold bytesT at h
  split at h
  · rename_i i hi; cases h; exact ⟨i, hi, rfl⟩
  · cases h
theorem zeroCells_eq (z : Array Value) (n : Nat) : Builtin.zeroCells z n = (Array.range (n * z.size)).map fun i => z[i % z.size]! := rfl

/-- cells that stand for a list's, with others behind them -/
theorem COk.ofList {l : List V} {xs : List Value} (h : VRs ρ l xs) (ho : allOne l = true) (rest : Array Value) (n : Nat) : COk ρ 0 n (.ofList l) (xs.toArray ++ rest) := by
  intro i v _ hv
  rw [Tr.get_ofList] at hv
  obtain ⟨x, hx, hr⟩ := h.get.2 i v hv
  have hi : i < xs.length := (List.getElem?_eq_some_iff.1 hx).1
  refine ⟨allOne_get ho hv, x, ?_, hr⟩
  rw [Nat.zero_add, Array.getElem?_append, if_pos (by simpa using hi)]
  simpa using hx

theorem COk.mono {ρ' : Ro} {o n : Nat} {t : Tr V} {c : Array Value} (h : COk ρ o n t c) (k : Le ρ ρ') : COk ρ' o n t c := fun i v hi hv => by
  obtain ⟨h1, x, hx, hr⟩ := h i v hi hv
  exact ⟨h1, x, hx, hr.mono k⟩

/-- a new row that is longer than what counts of it -/
theorem row_fresh (hr : RH P ρ st w.heap) {l : List V} {xs : List Value} {z : Fz} {e : Option TypeId} {el : TypeId} {fz : Nat × Nat} (hx : VRs ρ l xs) (ho : allOne l = true) (rest : Array Value)
    (hz : FzOk z fz (xs.length + rest.size)) (he : ∀ u, e = some u → el = u) (d : World) (hd : d.heap = w.heap) (hd1 : d.os = w.os) (hd2 : d.tape = w.tape) (hd3 : d.output = w.output) :
    RH P (ρ.set st.next (some ⟨w.heap.size, 0, xs.length + rest.size, true⟩)) (st.new (.cells z e l.length (.ofList l))) (d.alloc (.cells (xs.toArray ++ rest) el fz)).heap ∧
    Ext ρ st w (ρ.set st.next (some ⟨w.heap.size, 0, xs.length + rest.size, true⟩)) (st.new (.cells z e l.length (.ofList l))) (d.alloc (.cells (xs.toArray ++ rest) el fz)) := by
  have hr' : RH P ρ st d.heap := by rw [hd]; exact hr
  have hlen := hx.get.1
  have h0 := hr.none_of_ge (Nat.le_refl _)
  have h1 := hr'.fresh (n := xs.length + rest.size) (c := true) (b := .cells z e l.length (.ofList l)) (o := .cells (xs.toArray ++ rest) el fz)
    ⟨rfl, _, el, fz, rfl, by simp, by simp; omega, (COk.ofList hx ho rest _).mono (Ro.le_set _ h0), by simpa using hz, fun u hu => ⟨he u hu, rfl⟩⟩
  have h2 := Ext.fresh hr' (n := xs.length + rest.size) (c := true) (.cells z e l.length (.ofList l)) (.cells (xs.toArray ++ rest) el fz)
  rw [hd] at h1 h2
  refine ⟨h1, ⟨h2.next, h2.le, h2.hid, by have := h2.size; rw [hd] at this; exact this, fun k hk hh => ?_, fun id p e n t h3 h4 => (by have := h2.kept id p e n t h3 h4; rw [hd] at this; exact this), by rw [h2.os, hd1], by rw [h2.tape, hd2], by rw [h2.output, hd3]⟩⟩
  have := h2.old k (by rw [hd]; exact hk) hh
  rw [hd] at this
  exact this

def VOk (P : Program) (ρ : Ro) (st : St) (w : World) (r : Result Value) (nx : Nx) : Prop :=
  ∃ v st' Z w' ρ', nx = .val v st' ∧ r = .ok Z w' ∧ VR ρ' v Z ∧ RH P ρ' st' w'.heap ∧ Ext ρ st w ρ' st' w'

theorem VRs.len {l : List V} {xs : List Value} (h : VRs ρ l xs) : xs.length = l.length := h.get.1

theorem allOne_append {l m : List V} (h1 : allOne l = true) (h2 : allOne m = true) : allOne (l ++ m) = true := by
  induction l with
  | nil => exact h2
  | cons v l ih =>
    rw [allOne_cons] at h1
    simp only [Bool.and_eq_true] at h1
    rw [List.cons_append, allOne_cons, h1.1, ih h1.2]
    rfl

/-- the new row of an append -/
theorem grown_sound (hr : RH P ρ st w.heap) {el : El} {z : Fz} {e : Option TypeId} {n cap : Nat} {l : List V} {xs : List Value} {nx : Nx} {zc : Array Value} (h : grown st el z e n l = some nx) (hx : VRs ρ l xs) (ho : allOne l = true) (hl : l.length = n * el.size)
    (hzc : zc.size = el.size) (hcap : n ≤ cap) (hz : z ≠ .ro) (he : ∀ u, e = some u → u = el.e) :
    VOk P ρ st w (.ok (.slice (some ⟨w.heap.size, 0, none⟩) n cap) (w.drew.alloc (.cells (xs.toArray ++ Builtin.zeroCells zc (cap - n)) el.e))) nx := by
  cases h
  obtain ⟨h1, h2⟩ := row_fresh hr (z := z) (e := e) (el := el.e) (fz := (0, 0)) hx ho (Builtin.zeroCells zc (cap - n)) (by cases z <;> simp [FzOk]) (fun u hu => (he u hu).symm) w.drew rfl rfl rfl rfl
  rw [hl] at h1 h2
  refine ⟨_, _, _, _, _, rfl, rfl, ?_, h1, h2⟩
  simp only [VR, Ro.set_same]
  refine ⟨_, cap, rfl, hcap, fun k hk => (by cases hk), .inl ⟨_, rfl, fun _ => rfl, ?_⟩⟩
  have := hx.len
  simp only [zeroCells_eq, Array.size_map, Array.size_range, hzc, Nat.zero_add]
  rw [this, hl, Nat.sub_mul]
  have : n * el.size ≤ cap * el.size := Nat.mul_le_mul_right _ hcap
  omega

theorem appendTo_sound (hr : RH P ρ st w.heap) {el : El} {t xt ty : TypeId} {ts : Array TypeId} {s : V} {S X : Value} {nx : Nx} {n m : Nat} {new : List V} {xs : List Value} {b : Bool} {d : TypeDesc} {i : TypeInfo} {z : Value}
    (ht : ts[0]? = some t) (hxt : ts[1]? = some xt) (hu : P.underlying t = some (.slice el.e)) (hd : P.underlying xt = some d) (hbd : (b = true ∧ ∃ k, d = .int k) ∨ (b = false ∧ ∀ k, d ≠ .int k))
    (hsz : szT P el.e = some el.size) (hi : P.info? el.e = some i) (hb0 : i.bytes ≠ 0) (hz : ∀ w : World, (zeroValue el.e).run P w = .ok z w) (hzs : z.cells.size = el.size)
    (hn : (b = true ∧ (∃ kk, X = .int kk (n : Int)) ∧ n ≤ 1073741824 ∧ xs = (Builtin.zeroCells z.cells n).toList ∧ n * el.size = xs.length) ∨ (b = false ∧ (Builtin.lenOf X).run P w = .ok n w ∧ ∀ w' : World, w'.heap = w.heap → (Builtin.firstCells el.size n X).run P w' = .ok xs.toArray w'))
    (hroom : (2 * (m + n) + 1000) * i.bytes ≤ 140737488355328) (hxs : VRs ρ new xs) (hone : allOne new = true) (hlen : new.length = n * el.size) (hm : lenOf s = some m) (hs : VR ρ s S)
    (h : appendTo st el s n new = some nx) : VOk P ρ st w ((Builtin.append_ ts ty #[S, X]).run P w) nx := by
  have hxl := hxs.len
  have hsi := r_size hsz
  have hri := r_info hi
  cases s <;> first | (cases h; done) | skip
  case nils =>
    cases hm
    simp only [VR] at hs
    subst hs
    obtain ⟨k1, k2⟩ := r_append (P := P) (w := w) (ty := ty) (base := none) (sCap := 0) ht hxt hu hd hbd hsi hri hb0 hz hn hroom
    have h' : sel (Nat.beq n 0) (some (.val .nils st)) (grown st el .free (some el.e) n new) = some nx := h
    rw [sel_eq] at h'
    split at h'
    · rename_i h0
      obtain rfl := Nat.eq_of_beq_eq_true h0
      cases h'
      exact ⟨_, _, .slice none 0 0, w, ρ, rfl, by rw [k1 (by omega)]; rfl, by simp only [VR], hr, Ext.refl _ _ _⟩
    · rename_i h0
      have h0 : n ≠ 0 := fun e0 => h0 (by subst e0; rfl)
      obtain ⟨cap, hc, k3⟩ := k2 (by omega) [] (fun w' _ => rfl)
      rw [k3]
      have := grown_sound hr (cap := cap) h' hxs hone hlen hzs (by omega) (by simp) (fun u hu => by cases hu; rfl)
      simpa using this
  case slice id off m' cap sz =>
    cases hm
    have h' := h
    unfold appendTo at h'
    simp only at h'
    obtain ⟨h2, h3⟩ := ok_eq.1 h'
    clear h' h
    have h2 := Nat.eq_of_beq_eq_true h2
    subst h2
    have hs' := hs
    simp only [VR] at hs
    obtain ⟨A, cc, rfl, hmc, hcc, hA⟩ := hs
    -- in place
    have place : ∀ {zf : Fz} {e' : Option TypeId} {k : Nat} {t' : Tr V}, st.h.get id = some (.cells zf e' k t') → ∃ p, ρ id = some (some p) ∧ (0 < cc → A = ⟨p.r, p.o + off, none⟩) ∧ p.o + off + cc * el.size ≤ p.n := by
      intro zf e' k t' hbk
      rcases hA with ⟨p, h5, h6, h7⟩ | h5
      · exact ⟨p, h5, h6, h7⟩
      · exact absurd h5 (hr.not_gone hbk)
    cases cap with
    | some c =>
      obtain rfl := hcc c rfl
      simp only at h3
      rw [sel_eq] at h3
      split at h3
      · rename_i hle
        have hle : m + n ≤ cc := Nat.le_of_ble_eq_true hle
        obtain ⟨zf, e', k, t', hbk, h4⟩ := cellsAt_eq h3
        obtain ⟨h5, h6⟩ := ok_eq.1 h4
        obtain ⟨h7, h8⟩ := ok_eq.1 h6
        cases h8
        have h7 : off + (m + n) * el.size ≤ k := Nat.le_of_ble_eq_true h7
        obtain ⟨p, hp, hpa, hpn⟩ := place hbk
        obtain ⟨k1, _⟩ := r_append (P := P) (w := w) (ty := ty) (base := some A) (sCap := cc) (sLen := m) ht hxt hu hd hbd hsi hri hb0 hz hn hroom
        have hmul : (m + n) * el.size = m * el.size + n * el.size := Nat.add_mul _ _ _
        obtain ⟨w', h8, h9, h10⟩ := hr.write (P := P) (off := off + m * el.size) hp hbk h5 hxs hone (by omega)
        have hst : (storeCells (A.add (m * el.size)) xs).run P w = .ok () w' := by
          cases xs with
          | nil => exact h8
          | cons y ys =>
            have : 0 < cc := by
              have h11 : n ≠ 0 := fun e0 => by subst e0; simp at hlen; rw [hlen] at hxl; cases hxl
              omega
            rw [hpa this, Addr.add_off, Nat.add_assoc]
            exact h8
        refine ⟨_, _, .slice (some A) (m + n) cc, w', ρ, rfl, by rw [k1 hle]; simp only [hst, Result.andThen_ok], ?_, h9, h10⟩
        simp only [VR]
        exact ⟨A, cc, rfl, hle, fun k hk => by cases hk; rfl, hA⟩
      · rename_i hgt
        have hgt : ¬ m + n ≤ cc := fun hh => hgt (Nat.ble_eq_true_of_le hh)
        rw [obind_eq] at h3
        obtain ⟨old, hold, h4⟩ := h3
        obtain ⟨os, h5, h6, h7, h8⟩ := firstCells_sound (P := P) hr hold hs'
        obtain ⟨_, k2⟩ := r_append (P := P) (w := w) (ty := ty) (base := some A) (sCap := cc) (sLen := m) ht hxt hu hd hbd hsi hri hb0 hz hn hroom
        obtain ⟨cap, hc, k3⟩ := k2 hgt os h5
        rw [k3]
        have := grown_sound hr (cap := cap) h4 (h6.append hxs) (allOne_append h7 hone) (by rw [List.length_append, h8, hlen]; exact (Nat.add_mul m n el.size).symm) hzs hc (by simp) (fun u hu => by cases hu; rfl)
        simpa using this
    | none =>
      simp only at h3
      rw [sel_eq] at h3
      split at h3
      · rename_i h0
        obtain rfl := Nat.eq_of_beq_eq_true h0
        cases h3
        obtain ⟨k1, _⟩ := r_append (P := P) (w := w) (ty := ty) (base := some A) (sCap := cc) (sLen := m) ht hxt hu hd hbd hsi hri hb0 hz hn hroom
        have h0 : xs = [] := List.eq_nil_of_length_eq_zero (by rw [hxl, hlen, Nat.zero_mul])
        subst h0
        refine ⟨_, _, .slice (some A) m cc, w, ρ, rfl, ?_, hs', hr, Ext.refl _ _ _⟩
        rw [k1 (by omega)]
        rfl
      · rename_i h0
        have h0 : n ≠ 0 := fun e0 => h0 (by subst e0; rfl)
        obtain ⟨zf, e', k, t', hbk, h4⟩ := cellsAt_eq h3
        obtain ⟨h5, h6⟩ := ok_eq.1 h4
        rw [obind_eq] at h6
        obtain ⟨old, hold, h7⟩ := h6
        obtain ⟨p, hp, hpa, hpn⟩ := place hbk
        obtain ⟨os, h8, h9, h10, h11⟩ := firstCells_sound (P := P) hr hold hs'
        obtain ⟨k1, k2⟩ := r_append (P := P) (w := w) (ty := ty) (base := some A) (sCap := cc) (sLen := m) ht hxt hu hd hbd hsi hri hb0 hz hn hroom
        obtain ⟨c, el', fz, hh, hpc, hcs, hkn, hcok, hfz, he⟩ := hr.cells hp hbk
        by_cases hle : m + n ≤ cc
        · rw [k1 hle]
          have hcc0 : 0 < cc := by omega
          have hA0 := hpa hcc0
          have hmul : (m + n) * el.size = m * el.size + n * el.size := Nat.add_mul _ _ _
          have hmul2 : (m + n) * el.size ≤ cc * el.size := Nat.mul_le_mul_right _ hle
          have hstore := r_storeCells (P := P) p.r (p.o + off + m * el.size) el' fz xs 0 c w hh (fun i h1 h2 => ⟨by omega, hfz.may h5 (by omega)⟩) (ones hxs hone)
          cases h7
          -- the old cells lie where they lie
          have hold' : ∃ os' : List Value, VRs ρ old os' ∧ os'.length = m * el.size ∧ (∀ j x, os'[j]? = some x → c[p.o + off + j]? = some x) := by
            unfold Ev.firstCells at hold
            simp only at hold
            obtain ⟨_, q1⟩ := ok_eq.1 hold
            obtain ⟨_, q2⟩ := ok_eq.1 q1
            obtain ⟨z2, e2, kk2, t2, hb2, q3⟩ := cellsAt_eq q2
            obtain ⟨q4, q5⟩ := ok_eq.1 q3
            rw [hbk] at hb2
            cases hb2
            obtain ⟨os', q6, q7, q8, _⟩ := hcok.row q5 (Nat.le_of_ble_eq_true q4)
            exact ⟨os', q6, q7, q8⟩
          obtain ⟨os', q6, q7, q8⟩ := hold'
          have hso : (over' (p.o + off + m * el.size) xs 0 c).size = c.size := (set_cells _ xs 0 c).1
          have hcok' : COk ρ (p.o + off) ((m + n) * el.size) (.ofList (old ++ new)) (over' (p.o + off + m * el.size) xs 0 c) := by
            intro i v hi hv
            rw [Tr.get_ofList] at hv
            have hg := (set_cells (p.o + off + m * el.size) xs 0 c).2 (p.o + off + i)
            have hol : old.length = m * el.size := h11
            by_cases hlt : i < m * el.size
            · rw [List.getElem?_append_left (by omega)] at hv
              obtain ⟨x, hx, hxr⟩ := q6.get.2 i v hv
              refine ⟨allOne_get h10 hv, x, ?_, hxr⟩
              show (over' _ xs 0 c)[_]? = _
              unfold over'
              rw [hg, if_neg (by omega)]
              exact q8 i x hx
            · rw [List.getElem?_append_right (by omega)] at hv
              obtain ⟨x, hx, hxr⟩ := hxs.get.2 _ v hv
              refine ⟨allOne_get hone hv, x, ?_, hxr⟩
              unfold over'
              rw [hg, if_pos ⟨by omega, by omega, by omega⟩, ← hx]
              congr 1
              omega
          have hle' : Le ρ ((ρ.set id none).set st.next (some ⟨p.r, p.o + off, p.n, true⟩)) := (Ext.renew (w := w) (o := p.o + off) (b' := .dfr true) (o' := .deferred none) hr hp hpc hbk (fun e n t hh => by cases hh; cases h5)).le
          refine ⟨_, _, .slice (some A) (m + n) cc, { w with heap := w.heap.setIfInBounds p.r (.cells (over' (p.o + off + m * el.size) xs 0 c) el' fz) }, (ρ.set id none).set st.next (some ⟨p.r, p.o + off, p.n, true⟩), rfl, ?_, ?_, ?_, ?_⟩
          · simp only [hA0, Addr.add_off, hstore, Result.andThen_ok]
          · simp only [VR, Ro.set_same]
            exact ⟨A, cc, rfl, hle, fun k hk => (by cases hk), .inl ⟨_, rfl, fun _ => by rw [hA0]; rfl, by simpa using hpn⟩⟩
          · refine hr.renew hp hpc ⟨rfl, _, el', fz, rfl, by rw [hso, hcs], by show p.o + off + (m + n) * el.size ≤ p.n; omega, hcok'.mono hle', by rw [hso]; exact hfz, fun u hu => ?_⟩
            unfold keepE at hu
            split at hu
            · rename_i e0
              rw [sel_eq] at hu
              split at hu
              · rename_i hb'
                cases hu
                simp only [band_eq, Bool.and_eq_true] at hb'
                obtain ⟨q9, q10⟩ := he _ rfl
                have := Nat.eq_of_beq_eq_true hb'.2
                exact ⟨q9, by show p.o + off = 0; omega⟩
              · cases hu
            · cases hu
          · exact Ext.renew hr hp hpc hbk fun e n t hh => by cases hh; cases h5
        · obtain ⟨cap, hc, k3⟩ := k2 hle os h8
          rw [k3]
          have hk := hr.kill hp hpc
          have hek := Ext.kill (w := w) hp hpc hbk (fun e n t hh => by cases hh; cases h5)
          obtain ⟨v, st', Z, w', ρ', q1, q2, q3, q4, q5⟩ := grown_sound hk (cap := cap) h7 ((h9.append hxs).mono hek.le) (allOne_append h10 hone) (by rw [List.length_append, h11, hlen]; exact (Nat.add_mul m n el.size).symm) hzs hc (fun hz => by subst hz; cases h5) (fun u hu => by
            unfold keepE at hu
            split at hu
            · rw [sel_eq] at hu
              split at hu
              · rename_i hb'
                cases hu
                simp only [band_eq, Bool.and_eq_true] at hb'
                exact Nat.eq_of_beq_eq_true hb'.1
              · cases hu
            · cases hu)
          refine ⟨v, st', Z, w', ρ', q1, ?_, q3, q4, hek.trans q5⟩
          simpa using q2

theorem append_sound (hr : RH P ρ st w.heap) {t xt ty : TypeId} {ts : Array TypeId} {s x : V} {S X : Value} {nx : Nx} (ht : ts[0]? = some t) (hxt : ts[1]? = some xt)
    (h : Ev.append P st t xt s x = some nx) (hs : VR ρ s S) (hx : VR ρ x X) : VOk P ρ st w ((Builtin.append_ ts ty #[S, X]).run P w) nx := by
  unfold Ev.append at h
  rw [obind_eq] at h
  obtain ⟨el, hel, h⟩ := h
  rw [obind_eq] at h
  obtain ⟨m, hm, h⟩ := h
  obtain ⟨b, n, new, hb, h', hcase⟩ := newOf_sound h
  obtain ⟨h1, h2⟩ := ok_eq.1 h'
  clear h h'
  obtain ⟨hu, hel⟩ := elOf_eq hel
  obtain ⟨_, hsz, hby, hb0, hz1, hz2, z, hz, hzs, hzr⟩ := elT_eq hel
  obtain ⟨i, hi, hib⟩ := info_bytes hby
  obtain ⟨d, hd, hbd⟩ := isIntT_run hb
  have hroom : (2 * (m + n) + 1000) * i.bytes ≤ 140737488355328 := by rw [hib]; exact Nat.le_of_ble_eq_true h1
  have hnew : ∃ xs : List Value, VRs ρ new xs ∧ allOne new = true ∧ new.length = n * el.size ∧
      ((b = true ∧ (∃ kk, X = .int kk (n : Int)) ∧ n ≤ 1073741824 ∧ xs = (Builtin.zeroCells z.cells n).toList ∧ n * el.size = xs.length) ∨ (b = false ∧ (Builtin.lenOf X).run P w = .ok n w ∧ ∀ w' : World, w'.heap = w.heap → (Builtin.firstCells el.size n X).run P w' = .ok xs.toArray w')) := by
    rcases hcase with ⟨rfl, kk, rfl, hle, rfl⟩ | ⟨rfl, hl, hf⟩
    · simp only [VR] at hx
      subst hx
      have := VRs.repeat (hzr ρ) n
      refine ⟨_, this, allOne_repeat hz1 n, by rw [repeatL_length, hz2], .inl ⟨rfl, ⟨kk, rfl⟩, hle, rfl, ?_⟩⟩
      simp [hzs]
    · obtain ⟨xs, h3, h4, h5, h6⟩ := firstCells_sound (P := P) hr hf hx
      exact ⟨xs, h4, h5, h6, .inr ⟨rfl, lenOf_sound hl hx, h3⟩⟩
  obtain ⟨xs, hxs, hone, hlen, hn⟩ := hnew
  exact appendTo_sound hr ht hxt hu hd hbd hsz hi (by rw [hib]; exact hb0) hz hzs hn hroom hxs hone hlen hm hs h2
end
end Go.Ev


/- What acts: copy, clear, conversions to bytes, new slices, iterators, strings over bytes. -/
namespace Go.Ev
section
variable {P : Program} {ρ : Ro} {st : St} {e : Env} {a : Act} {w : World}

theorem copy_sound (hr : RH P ρ st w.heap) {t ty : TypeId} {ts : Array TypeId} {d s : V} {D S : Value} {nx : Nx} (ht : ts[0]? = some t) 
    (h : copyV P st t d s = some nx) (hd : VR ρ d D) (hs : VR ρ s S) : VOk P ρ st w ((Builtin.copy_ ts ty #[D, S]).run P w) nx := by
  unfold copyV at h
  rw [obind_eq] at h
  obtain ⟨el, hel, h⟩ := h
  rw [obind_eq] at h
  obtain ⟨dl, hdl, h⟩ := h
  rw [obind_eq] at h
  obtain ⟨sl, hsl, h⟩ := h
  rw [obind_eq] at h
  obtain ⟨l, hl, h'⟩ := h
  obtain ⟨hu, hel⟩ := elOf_eq hel
  obtain ⟨_, hsz, _⟩ := elT_eq hel
  obtain ⟨xs, h1, h2, h3, h4⟩ := firstCells_sound (P := P) hr hl hs
  have hlo := lenOf_sound (P := P) (w := w) hsl hs
  have hmin : Nat.min sl dl = min sl dl := rfl
  split at h'
  · cases h'
    cases hdl
    simp only [VR] at hd
    subst hd
    refine ⟨_, _, goInt ((min sl 0 : Nat) : Int), w, ρ, rfl, ?_, by simp only [VR, goInt]; rfl, hr, Ext.refl _ _ _⟩
    simp only [Builtin.copy_, ht, List.getElem?_toArray, List.getElem?_cons_zero, List.getElem?_cons_succ, Sem.run_bind, r_under hu, Result.andThen_ok, hlo, r_size hsz, hmin, h1 w rfl, Sem.run_pure]
  · rename_i id off n cap sz
    cases hdl
    obtain ⟨k1, k2⟩ := ok_eq.1 h'
    obtain rfl := Nat.eq_of_beq_eq_true k1
    obtain ⟨z, e', m, c, hb, k3⟩ := cellsAt_eq k2
    obtain ⟨k4, k5⟩ := ok_eq.1 k3
    obtain ⟨k6, k7⟩ := ok_eq.1 k5
    cases k7
    have k6 : off + min sl dl * el.size ≤ m := Nat.le_of_ble_eq_true k6
    obtain ⟨p, A, cc, hp, rfl, hnc, hcap, hA, hroom⟩ := hd.slice_at hr hb
    obtain ⟨w', h5, h6, h7⟩ := hr.write (P := P) (off := off) hp hb k4 h2 h3 (by omega)
    have hst : (storeCells A xs).run P w = .ok () w' := by
      cases xs with
      | nil => exact h5
      | cons y ys =>
        have : 0 < cc := by
          have h8 := h2.len
          rcases Nat.eq_zero_or_pos cc with h0 | h0
          · exfalso
            have : dl = 0 := by omega
            subst this
            simp at h4
            rw [h4] at h8
            cases h8
          · exact h0
        rw [hA this]
        exact h5
    refine ⟨_, _, goInt ((min sl dl : Nat) : Int), w', ρ, rfl, ?_, by simp only [VR, goInt]; rfl, h6, h7⟩
    simp only [Builtin.copy_, ht, List.getElem?_toArray, List.getElem?_cons_zero, List.getElem?_cons_succ, Sem.run_bind, r_under hu, Result.andThen_ok, hlo, r_size hsz, hmin, h1 w rfl, hst, Sem.run_pure]
  · cases h'

theorem clear_sound (hr : RH P ρ st w.heap) {t ty : TypeId} {ts : Array TypeId} {x : V} {X : Value} {nx : Nx} (ht : ts[0]? = some t)
    (h : clearV P st t x = some nx) (hx : VR ρ x X) : VOk P ρ st w ((Builtin.clear_ ts ty #[X]).run P w) nx := by
  unfold clearV at h
  split at h
  · rw [obind_eq] at h
    obtain ⟨q, hq, h⟩ := h
    cases h
    simp only [VR] at hx
    subst hx
    exact ⟨_, _, undef, w, ρ, rfl, by simp [Builtin.clear_, ht, r_under (mapT_eq hq)]; rfl, VR.unit, hr, Ext.refl _ _ _⟩
  · rw [obind_eq] at h
    obtain ⟨q, hq, h⟩ := h
    cases h
    simp only [VR] at hx
    subst hx
    exact ⟨_, _, undef, w, ρ, rfl, by simp [Builtin.clear_, ht, r_under (elemT_eq hq)]; rfl, VR.unit, hr, Ext.refl _ _ _⟩
  · rename_i id off n cap sz
    rw [obind_eq] at h
    obtain ⟨el, hel, h⟩ := h
    obtain ⟨k1, k2⟩ := ok_eq.1 h
    obtain rfl := Nat.eq_of_beq_eq_true k1
    obtain ⟨z, e', m, c, hb, k3⟩ := cellsAt_eq k2
    obtain ⟨k4, k5⟩ := ok_eq.1 k3
    obtain ⟨k6, k7⟩ := ok_eq.1 k5
    cases k7
    obtain ⟨hu, hel⟩ := elOf_eq hel
    obtain ⟨_, hsz, _, _, hz1, hz2, zv, hz, hzs, hzr⟩ := elT_eq hel
    have k6 : off + n * el.size ≤ m := Nat.le_of_ble_eq_true k6
    obtain ⟨p, A, cc, hp, rfl, hnc, hcap, hA, hroom⟩ := hx.slice_at hr hb
    obtain ⟨w', h5, h6, h7⟩ := hr.write (P := P) (off := off) hp hb k4 (VRs.repeat (hzr ρ) n) (allOne_repeat hz1 n) (by rw [repeatL_length, hz2]; exact k6)
    refine ⟨_, _, undef, w', ρ, rfl, ?_, VR.unit, h6, h7⟩
    cases n with
    | zero =>
      have hw : w' = w := by
        have : (storeCells ⟨p.r, p.o + off, none⟩ ((Array.range (0 * zv.cells.size)).map fun i => zv.cells[i % zv.cells.size]!).toList).run P w = .ok () w := by
          simp [storeCells]
        rw [this] at h5
        cases h5
        rfl
      subst hw
      simp [Builtin.clear_, ht, r_under hu]
      rfl
    | succ n =>
      rw [hA (by omega)]
      have h5' : (storeCells ⟨p.r, p.o + off, none⟩ (Builtin.zeroCells zv.cells (n + 1)).toList).run P w = .ok () w' := h5
      simp only [Builtin.clear_, ht, List.getElem?_toArray, List.getElem?_cons_zero, Sem.run_bind, r_under hu, Result.andThen_ok, hz, h5', Sem.run_pure]
      rfl
  · cases h
end
end Go.Ev


/- What acts: bytes of a string, new slices, iterators, strings over bytes. -/
namespace Go.Ev
section
variable {P : Program} {ρ : Ro} {st : St} {e : Env} {a : Act} {w : World}

theorem freeze_alloc (d : World) (c : Array Value) (el : TypeId) (off : Nat) : (d.alloc (.cells c el)).freeze ⟨d.heap.size, off, none⟩ 1 = d.alloc (.cells c el (off, off + 1)) := by
  unfold World.freeze World.alloc
  simp only [Nat.one_ne_zero, if_false]
  congr 1
  apply Array.ext_getElem?
  intro j
  rw [Array.getElem?_modify]
  split
  · rename_i hj
    subst hj
    simp
  · rename_i hj
    rw [Array.getElem?_push, Array.getElem?_push]
    rw [if_neg (fun hh => hj hh.symm), if_neg (fun hh => hj hh.symm)]

theorem bytes_sound (hr : RH P ρ st w.heap) {el : TypeId} {l : List Nat} (hs : small l) :
    VOk P ρ st w ((Conv.stringToBytes el (strOf l)).run P w) (.val (.slice st.next 0 (len l) none 1) (st.new (.cells .str (some el) (len l) (.ofList (bytesV l))))) := by
  rw [len_eq]
  obtain ⟨h1, h2, h3⟩ := bytesV_sound (ρ := ρ) hs
  have hsz : (strOf l).size = l.length := strOf_size l
  let cap := (Question.appendCap (strOf l).size 0 el).cut (w.tape w.drawn (.appendCap (strOf l).size 0 el))
  have hcap : l.length ≤ cap := by
    show l.length ≤ (Question.appendCap (strOf l).size 0 el).cut _
    simp only [Question.cut, hsz]
    omega
  let rest : Array Value := Array.replicate (cap - (strOf l).size) (.int .u8 0)
  let cells : Array Value := ((strOf l).data.map fun b => Value.int .u8 b.toNat) ++ rest
  have hce : cells = (l.map fun (b : Nat) => Value.int .u8 (b : Int)).toArray ++ rest := by
    show _ ++ rest = _ ++ rest
    congr 1
    apply Array.toList_inj.1
    rw [cells_strOf hs]
  have hn : (l.map fun (b : Nat) => Value.int .u8 (b : Int)).length + rest.size = cap := by
    simp only [List.length_map, rest, Array.size_replicate, hsz]
    omega
  have hcs : cells.size = cap := by rw [hce]; simp only [Array.size_append, List.size_toArray]; exact hn
  obtain ⟨k1, k2⟩ := row_fresh hr (z := .str) (e := some el) (el := el) (fz := (cap, cap + 1)) h1 h2 rest (by rw [hn]; intro i hi hh; omega) (fun u hu => by cases hu; rfl) w.drew rfl rfl rfl rfl
  rw [← hce, h3] at k1 k2
  refine ⟨_, _, .slice (some ⟨w.heap.size, 0, none⟩) (strOf l).size cap, _, _, rfl, ?_, ?_, k1, k2⟩
  · have hfz : ((w.drew.alloc (.cells cells el)).freeze ⟨w.heap.size, cap, none⟩ 1) = w.drew.alloc (.cells cells el (cap, cap + 1)) := freeze_alloc w.drew cells el cap
    have hsh : (w.drew.alloc (.cells cells el)).shape? w.heap.size = some (el, cap) := by
      have : (w.drew.alloc (.cells cells el)).heap[w.heap.size]? = some (.cells cells el) := by
        show (w.heap.push _)[w.heap.size]? = _
        simp
      unfold World.shape?
      rw [this]
      simp only [hcs]
    unfold Conv.stringToBytes
    simp only [Sem.run_bind, run_choose, Question.forced, Bool.false_eq_true, if_false, Result.andThen_ok, newRow, run_newObj, Sem.run_pure, markStringish, run_shape, World.drew_eq, World.alloc_eq]
    change ((Sem.run P (match (w.drew.alloc (.cells cells el)).shape? w.heap.size with | some (_, n) => freeze ⟨w.heap.size, n, none⟩ 1 | _ => pure ()) (w.drew.alloc (.cells cells el))).andThen fun a w' => Result.ok (Value.slice (some ⟨w.heap.size, 0, none⟩) (strOf l).size cap) w') = _
    rw [hsh]
    simp only [Result.andThen_ok, run_freeze]
    rw [hfz]
  · rw [hn]
    simp only [VR, Ro.set_same, hsz]
    exact ⟨_, cap, rfl, hcap, fun k hk => (by cases hk), .inl ⟨_, rfl, fun _ => rfl, by simp⟩⟩

theorem mkSlice_sound (hr : RH P ρ st w.heap) {t : TypeId} {el : El} {k1 k2 : IntKind} {l c : Nat} (hel : elOf P t = some el) (hl : l ≤ c) (hc : c ≤ 1073741824) (hb : el.bytes ≤ 65536) :
    VOk P ρ st w ((Instr.makeSlice t (.int k1 (l : Int)) (.int k2 (c : Int))).run P w) (.val (.slice st.next 0 l (some c) el.size) (st.new (.cells .free (some el.e) (Nat.mul c el.size) (.ofList (repeatL el.zero c))))) := by
  obtain ⟨hu, hel⟩ := elOf_eq hel
  obtain ⟨_, hsz, hby, hb0, hz1, hz2, z, hz, hzs, hzr⟩ := elT_eq hel
  obtain ⟨i, hi, hib⟩ := info_bytes hby
  have hrep := VRs.repeat (hzr ρ) c
  obtain ⟨h1, h2⟩ := row_fresh hr (z := .free) (e := some el.e) (el := el.e) (fz := (0, 0)) hrep (allOne_repeat hz1 c) #[] rfl (fun u hu => by cases hu; rfl) w rfl rfl rfl rfl
  have hlen : (repeatL el.zero c).length = c * el.size := by rw [repeatL_length, hz2]
  rw [hlen] at h1 h2
  have ea : (((Array.range (c * z.cells.size)).map fun i => z.cells[i % z.cells.size]!).toList.toArray ++ #[]) = ((Array.range (c * z.cells.size)).map fun i => z.cells[i % z.cells.size]!) := by rw [Array.append_empty, Array.toArray_toList]
  have en : ((Array.range (c * z.cells.size)).map fun i => z.cells[i % z.cells.size]!).toList.length + (#[] : Array Value).size = c * el.size := by simp [hzs]
  rw [ea, en] at h1 h2
  have wl : IntKind.i64.wrap (l : Int) = l := wrap_s .i64 rfl _ (by simp [kmax]) (by simp [kmax]; omega)
  have wc : IntKind.i64.wrap (c : Int) = c := wrap_s .i64 rfl _ (by simp [kmax]) (by simp [kmax]; omega)
  have hbig : ¬ ((i.bytes : Int) * (c : Int) > 2 ^ 48) := by
    have h3 : i.bytes * c ≤ 65536 * 1073741824 := Nat.mul_le_mul (by omega) hc
    have h5 : (i.bytes : Int) * (c : Int) = ((i.bytes * c : Nat) : Int) := by simp
    rw [h5]
    omega
  refine ⟨_, _, .slice (some ⟨w.heap.size, 0, none⟩) l c, _, _, rfl, ?_, ?_, h1, h2⟩
  · have g1 : ¬ ((c : Int) < 0) := by omega
    have g2 : ¬ ((l : Int) < 0) := by omega
    have g3 : ¬ ((l : Int) > (c : Int)) := by omega
    simp only [Instr.makeSlice, Sem.run_bind, r_under hu, Result.andThen_ok, asInt, asIntOf, Sem.run_pure, r_info hi, wl, wc, decide_eq_false g1, decide_eq_false hbig, g2, g3, decide_false, Bool.or_self, Bool.false_eq_true, if_false, run_askRoom, Int.toNat_natCast, r_size hsz, Sem.run_ite]
    by_cases h0 : c * el.size = 0
    · simp only [if_pos h0, Result.andThen_ok, newRow, Sem.run_bind, run_newObj, Sem.run_pure]
      have e1 : ((Array.range (c * z.cells.size)).map fun i => z.cells[i % z.cells.size]!) = #[] := Array.eq_empty_of_size_eq_zero (by simp [hzs, h0])
      have e2 : ((Array.range 0).map fun x => (#[] : Array Value)[x % (#[] : Array Value).size]!) = #[] := Array.eq_empty_of_size_eq_zero (by simp)
      rw [e1, h0, e2]
      rfl
    · simp only [if_neg h0, Result.andThen_ok, hz, newRow, Sem.run_bind, run_newObj, Sem.run_pure, hzs]
      rfl
  · simp only [VR, Ro.set_same]
    exact ⟨_, c, rfl, hl, fun k hk => by cases hk; rfl, .inl ⟨_, rfl, fun _ => rfl, by simp⟩⟩

theorem fresh_ptr (hr : RH P ρ st w.heap) {b : B} {o : Obj} (hb : BR P (ρ.set st.next (some ⟨w.heap.size, 0, 0, false⟩)) ⟨w.heap.size, 0, 0, false⟩ b o) :
    VOk P ρ st w (.ok (.pointer (some ⟨w.heap.size, 0, none⟩)) (w.alloc o)) (.val (.ptr st.next 0) (st.new b)) :=
  ⟨_, _, _, _, _, rfl, rfl, by simp only [VR, Ro.set_same]; exact .inl ⟨_, rfl, rfl⟩, hr.fresh hb, Ext.fresh hr b o⟩

theorem range_sound (hr : RH P ρ st w.heap) {t : TypeId} {x : V} {X : Value} {nx : Nx} (hx : VR ρ x X)
    (h : rangeV P t st x = some nx) : VOk P ρ st w ((Instr.range t X).run P w) nx := by
  unfold rangeV at h
  split at h
  · rename_i hu
    cases x <;> first | (cases h; done) | skip
    cases h
    simp only [VR] at hx
    obtain ⟨hs, rfl⟩ := hx
    have := fresh_ptr (P := P) hr (b := .siter _ 0) (o := .stringIter _ 0) ⟨rfl, rfl, hs, rfl⟩
    simpa [Instr.range, r_under hu] using this
  · rename_i k v hu
    cases x <;> first | (cases h; done) | skip
    case nilm =>
      cases h
      simp only [VR] at hx
      subst hx
      have := fresh_ptr (P := P) hr (b := .miter none) (o := .mapIter none 0 #[] 0) ⟨rfl, rfl, rfl⟩
      simpa [Instr.range, r_under hu] using this
    case map id =>
      obtain ⟨es, cl, hb, h1⟩ := mapAt_eq h
      cases h1
      obtain ⟨p, hp, rfl⟩ := hx.map_at hr hb
      obtain ⟨o, ho, hpc, arr, rfl, he⟩ := hr.block hp hb
      have hne : id ≠ st.next := fun e0 => by have := (hr.at' id p hp).1; omega
      have := fresh_ptr (P := P) hr (b := .miter (some id)) (o := .mapIter (some p.r) cl #[] cl) ⟨rfl, rfl, p, cl, cl, by rw [Ro.set_ne _ _ hne]; exact hp, hpc, rfl⟩
      simpa [Instr.range, r_under hu, r_getObj ho] using this
  · cases h
end
end Go.Ev


/- What acts: iterators that step, strings over bytes, maps. -/
namespace Go.Ev
section
variable {P : Program} {ρ : Ro} {st : St} {e : Env} {a : Act} {w : World}

theorem decode_ascii {s : List Nat} {pos c : Nat} (h : s[pos]? = some c) (hc : c < 128) : Utf8.decode (strOf s) pos = (c, 1) := by
  have hp : pos < s.length := (List.getElem?_eq_some_iff.1 h).1
  have hd : (strOf s).data[pos]? = some c.toUInt8 := by simp [strOf, h]
  have hg : ((strOf s).get! (pos + 0)).toNat = c := by
    have h1 : (strOf s).get! (pos + 0) = (strOf s).data[pos]! := by cases strOf s; rfl
    rw [h1, getElem!_def, hd]
    simp [Nat.mod_eq_of_lt (show c < 256 by omega)]
  simp only [Utf8.decode, hg]
  rw [if_pos (by omega)]

theorem next_sound (hr : RH P ρ st w.heap) {id off : Nat} {X : Value} {isS : Bool} {ty : TypeId} {nx : Nx} (hx : VR ρ (.ptr id off) X)
    (h : ok (Nat.beq off 0) (obind (st.h.get id) fun b => match b with
      | .siter s pos => ok isS (nextS id st s pos)
      | .miter m => sel isS none (match m with | none => over st | some m => mapAt st m fun es _ => (match es with | [] => over st | _ => none))
      | _ => none) = some nx) : VOk P ρ st w ((Instr.next X isS ty).run P w) nx := by
  obtain ⟨h1, h2⟩ := ok_eq.1 h
  obtain rfl := Nat.eq_of_beq_eq_true h1
  rw [obind_eq] at h2
  obtain ⟨b, hb, h3⟩ := h2
  obtain ⟨p, hp, rfl⟩ := hx.ptr_at hr hb
  obtain ⟨o, ho, hbr⟩ := hr.block hp hb
  clear h h1
  have hov : ∀ {r : Result Value}, over st = some nx → r = .ok (.tuple #[.bool false]) w → VOk P ρ st w r nx := by
    intro r h1 h2
    cases h1
    exact ⟨_, _, _, w, ρ, rfl, h2, by simp only [VR]; exact ⟨_, rfl, VRs.cons (by simp only [VR]) VRs.nil⟩, hr, Ext.refl _ _ _⟩
  split at h3
  · rename_i s pos
    obtain ⟨hpc, hpo, hs, rfl⟩ := hbr
    obtain ⟨h4, h5⟩ := ok_eq.1 h3
    subst h4
    unfold nextS at h5
    rw [drop_eq] at h5
    have hg := r_getObj (P := P) ho (by simp)
    split at h5
    · rename_i hd
      have hle : ¬ pos < s.length := by
        intro hlt
        have := List.length_drop (l := s) (i := pos)
        rw [hd] at this
        simp at this
        omega
      refine hov h5 ?_
      rw [hpo]
      simp [Instr.next, hg, hle]
    · rename_i c l hd
      obtain ⟨h6, h7⟩ := ok_eq.1 h5
      cases h7
      have hc : c < 128 := by simpa [Nat.blt_eq] using h6
      have hat : s[pos]? = some c := by
        have : (s.drop pos)[0]? = some c := by rw [hd]; rfl
        rw [List.getElem?_drop] at this
        simpa using this
      have hlt : pos < s.length := (List.getElem?_eq_some_iff.1 hat).1
      refine ⟨_, _, .tuple #[.bool true, goInt pos, .int .i32 c], { w with heap := w.heap.setIfInBounds p.r (.stringIter (strOf s) (pos + 1)) }, ρ, rfl, ?_, ?_, ?_, ?_⟩
      · rw [hpo]
        simp [Instr.next, hg, hlt, decode_ascii hat hc, r_setObj ho]
      · simp only [VR]
        exact ⟨_, rfl, VRs.cons (by simp only [VR]) (VRs.cons (by simp only [VR]; rfl) (VRs.cons (by simp only [VR]; rfl) VRs.nil))⟩
      · exact hr.turn hp ⟨hpc, hpo, hs, rfl⟩
      · exact Ext.turn hr hp hb fun _ _ _ hh => by cases hh
  · rename_i m
    rw [sel_eq] at h3
    split at h3
    · cases h3
    · rename_i hS
      have hS : isS = false := by simpa using hS
      subst hS
      cases m with
      | none =>
        obtain ⟨hpc, hpo, rfl⟩ := hbr
        have hg := r_getObj (P := P) ho (by simp)
        refine hov h3 ?_
        rw [hpo]
        simp [Instr.next, hg]
      | some m =>
        obtain ⟨hpc, hpo, q, s, t, hq, hqc, rfl⟩ := hbr
        have hg := r_getObj (P := P) ho (by simp)
        obtain ⟨es, cl, hbm, h4⟩ := mapAt_eq h3
        split at h4
        · obtain ⟨om, hom, _, arr, rfl, he⟩ := hr.block hq hbm
          have hg2 := r_getObj (P := P) hom (by simp)
          have harr : arr = #[] := by simp only [EsR] at he; exact Array.toList_inj.1 he
          subst harr
          refine hov h4 ?_
          rw [hpo]
          simp [Instr.next, hg, hg2, Question.forced]
        · cases h4
  · cases h3

theorem freeze_row {r o n : Nat} {c : Array Value} {el : TypeId} {fz : Nat × Nat} (h : w.heap[r]? = some (.cells c el fz)) (hn : n ≠ 0) :
    ∃ fz', w.freeze ⟨r, o, none⟩ n = { w with heap := w.heap.setIfInBounds r (.cells c el fz') } := by
  obtain ⟨lo, hi⟩ := fz
  refine ⟨if lo == hi then (o, o + n) else (min lo o, max hi (o + n)), ?_⟩
  unfold World.freeze
  rw [if_neg hn]
  congr 1
  apply Array.ext_getElem?
  intro j
  rw [Array.getElem?_modify, Array.getElem?_setIfInBounds]
  by_cases hj : r = j
  · subst hj
    have hlt := (Array.getElem?_eq_some_iff.1 h).1
    rw [if_pos rfl, if_pos rfl, if_pos hlt, h]
    rfl
  · simp [hj]

theorem unsString_sound (hr : RH P ρ st w.heap) {t it ty : TypeId} {p n : V} {X N : Value} {nx : Nx} (h : unsString P st t p n = some nx) (hp : VR ρ p X) (hn : VR ρ n N) :
    VOk P ρ st w ((Builtin.unsafeString_ #[t, it] ty #[X, N]).run P w) nx := by
  unfold unsString at h
  obtain ⟨id, off, rfl, h1⟩ := vptr_eq h
  obtain ⟨kk, m0, rfl, h2⟩ := vint_eq h1
  obtain ⟨m, rfl, h2⟩ := inat_eq h2
  obtain ⟨h3, h4⟩ := ok_eq.1 h2
  rw [obind_eq] at h4
  obtain ⟨u, hu, h5⟩ := h4
  obtain ⟨h6, h7⟩ := ok_eq.1 h5
  rw [obind_eq] at h7
  obtain ⟨s, hs, h8⟩ := h7
  obtain ⟨h9, h10⟩ := ok_eq.1 h8
  obtain rfl := Nat.eq_of_beq_eq_true h9
  obtain ⟨z, e', k, c, hb, h11⟩ := cellsAt_eq h10
  clear h h1 h2 h5 h8 h10
  split at h11
  · rename_i e0
    obtain ⟨h12, h13⟩ := ok_eq.1 h11
    rw [band_eq, Bool.and_eq_true] at h12
    obtain rfl := Nat.eq_of_beq_eq_true h12.2
    obtain ⟨h14, h15⟩ := ok_eq.1 h13
    rw [obind_eq] at h15
    obtain ⟨l, hl, h16⟩ := h15
    rw [obind_eq] at h16
    obtain ⟨bs, hbs, h17⟩ := h16
    cases h17
    simp only [VR] at hn
    subst hn
    simp only [band_eq, Bool.and_eq_true, sameK_eq, decide_eq_true_eq] at h3
    obtain ⟨rfl, hoff, h31, h32⟩ := h3
    obtain rfl := Nat.eq_of_beq_eq_true hoff
    have hm : m ≠ 0 := fun e0 => by subst e0; simp at h31
    have hm2 : m ≤ 1099511627776 := Nat.le_of_ble_eq_true h32
    have h14 : 0 + m ≤ k := Nat.le_of_ble_eq_true h14
    obtain ⟨q, hq, rfl⟩ := hp.ptr_at hr hb
    obtain ⟨cs, el', fz, hh, hqc, hcs, hkn, hcok, hfz, he⟩ := hr.cells hq hb
    obtain ⟨rfl, hqo⟩ := he _ rfl
    obtain ⟨xs, q1, q2, q3, _⟩ := hcok.row hl h14
    obtain ⟨q4, q5⟩ := u8s_sound hbs q1
    have hbl : bs.length = m := by rw [← q2, q4]; simp
    have hpt : P.underlying t = some (.pointer el') := by
      unfold ptrT at hu
      split at hu
      · cases hu; assumption
      · cases hu
    have hc1 : P.cellsOf el' = 1 := by
      unfold szT at hs
      split at hs
      · rename_i i hi; have := Option.some.inj hs; simp [Program.cellsOf, hi, this]
      · cases hs
    have hlen : (bs.map Nat.toUInt8).length = m := by rw [List.length_map, hbl]
    have hrun := Lib.run_unsafeString_row (P := P) (w := w) t it ty el' hpt hc1 q.r cs.size (by simp [World.shape?, hh]) (bs.map Nat.toUInt8)
      (fun e0 => by rw [e0] at hlen; simp at hlen; omega) (by omega) (by omega) (fun j x hj => by
        rw [Addr.add_off, World.cell_at hh]
        rw [List.getElem?_map] at hj
        cases hbj : bs[j]? with
        | none => rw [hbj] at hj; cases hj
        | some b =>
          rw [hbj] at hj
          cases hj
          have hsm := q5 b (List.mem_of_getElem? hbj)
          have := q3 j (.int .u8 ((Nat.toUInt8 b).toNat : Nat)) (by
            rw [q4, List.getElem?_map, hbj]
            simp [Nat.mod_eq_of_lt hsm])
          rw [hqo] at this
          simpa using this)
    rw [hlen] at hrun
    obtain ⟨fz', hfr⟩ := freeze_row (o := 0) hh hm
    rw [hqo]
    refine ⟨_, _, .string (strOf bs), w.freeze ⟨q.r, 0, none⟩ m, ρ, rfl, hrun, by simp only [VR]; exact ⟨q5, trivial⟩, ?_, ?_⟩
    · rw [hfr]
      exact hr.turn hq ⟨hqc, cs, el', fz', rfl, hcs, hkn, hcok, trivial, he⟩
    · rw [hfr]
      refine Ext.turn hr hq hb fun e1 n1 t1 hh1 => ?_
      cases hh1
      cases h12.1
  · cases h11
end
end Go.Ev


/- What acts: maps. -/
namespace Go.Ev
section
variable {P : Program} {ρ : Ro} {st : St} {e : Env} {a : Act} {w : World}

theorem kb1_sound {H : Array Obj} (hr : RH P ρ st H) {x y : V} {X Y : Value} (h : kb1 st x y = true) (hx : VR ρ x X) (hy : VR ρ y Y) : X = Y ∧ ∀ n, Instr.sameBits n X X = true := by
  unfold kb1 at h
  cases x <;> first | (cases h; done) | skip
  case bool p =>
    cases y <;> first | (cases h; done) | skip
    simp only [VR] at hx hy
    subst hx
    subst hy
    rename_i q
    refine ⟨by cases p <;> cases q <;> first | rfl | (cases h), fun n => by cases n <;> simp [Instr.sameBits]⟩
  case int k m =>
    cases y <;> first | (cases h; done) | skip
    simp only [VR] at hx hy
    subst hx
    subst hy
    simp only [band_eq, Bool.and_eq_true, sameK_eq, decide_eq_true_eq, ieq_iff] at h
    obtain ⟨rfl, rfl⟩ := h
    exact ⟨rfl, fun n => by cases n <;> simp [Instr.sameBits]⟩
  case str s =>
    cases y <;> first | (cases h; done) | skip
    simp only [VR] at hx hy
    obtain ⟨hsm, rfl⟩ := hx
    obtain ⟨_, rfl⟩ := hy
    have hself : (strOf s == strOf s) = true := by rw [natsEq_bytes hsm hsm, natsEq_iff]
    rw [natsEq_iff] at h
    subst h
    exact ⟨rfl, fun n => by cases n <;> simp [Instr.sameBits, hself]⟩
  case ptr i o =>
    cases y <;> first | (cases h; done) | skip
    rename_i j p
    simp only [band_eq, Bool.and_eq_true] at h
    obtain ⟨h1, h2, h3⟩ := h
    obtain rfl := Nat.eq_of_beq_eq_true h1
    obtain rfl := Nat.eq_of_beq_eq_true h2
    split at h3
    · rename_i b hb
      obtain ⟨q, hq, rfl⟩ := hx.ptr_at hr hb
      obtain ⟨q', hq', rfl⟩ := hy.ptr_at hr hb
      rw [hq] at hq'
      cases hq'
      exact ⟨rfl, fun n => by cases n <;> simp [Instr.sameBits]⟩
    · cases h3
  case nilp =>
    cases y <;> first | (cases h; done) | skip
    simp only [VR] at hx hy
    subst hx
    subst hy
    exact ⟨rfl, fun n => by cases n <;> simp [Instr.sameBits]⟩
theorem kbs_sound {H : Array Obj} (hr : RH P ρ st H) : ∀ {l m : List V} {xs ys : List Value}, kbs st l m = true → VRs ρ l xs → VRs ρ m ys → xs = ys ∧ ∀ x ∈ xs, ∀ n, Instr.sameBits n x x = true
  | [], m, xs, ys, h, hx, hy => by
    cases m with
    | nil => simp only [VRs] at hx hy; subst hx; subst hy; exact ⟨rfl, fun x hx => by cases hx⟩
    | cons => cases h
  | v :: l, m, xs, ys, h, hx, hy => by
    cases m with
    | nil => cases h
    | cons u m =>
      have h : sel (kb1 st v u) (kbs st l m) false = true := h
      rw [sel_eq] at h
      split at h
      · rename_i h1
        simp only [VRs] at hx hy
        obtain ⟨x, xs', rfl, hx1, hx2⟩ := hx
        obtain ⟨y, ys', rfl, hy1, hy2⟩ := hy
        obtain ⟨rfl, h2⟩ := kb1_sound hr h1 hx1 hy1
        obtain ⟨rfl, h3⟩ := kbs_sound hr h hx2 hy2
        refine ⟨rfl, fun z hz => ?_⟩
        rcases List.mem_cons.1 hz with rfl | hz
        · exact h2
        · exact h3 z hz
      · cases h
theorem kb_sound {H : Array Obj} (hr : RH P ρ st H) {x y : V} {X Y : Value} (h : kb st x y = true) (hx : VR ρ x X) (hy : VR ρ y Y) : X = Y ∧ Instr.sameBits 10000 X X = true := by
  unfold kb at h
  split at h
  · split at h
    · simp only [VR] at hx hy
      obtain ⟨xa, rfl, hx⟩ := hx
      obtain ⟨ya, rfl, hy⟩ := hy
      obtain ⟨h1, h2⟩ := kbs_sound hr h hx hy
      obtain rfl := Array.toList_inj.1 h1
      refine ⟨rfl, ?_⟩
      simp only [Instr.sameBits, beq_self_eq_true, Bool.true_and, List.all_eq_true]
      intro p hp
      have hpe : p.1 = p.2 ∧ p.1 ∈ xa.toList := by
        have := List.of_mem_zip hp
        rw [List.zip_eq_zipWith] at hp
        have hz : ∀ {l : List Value}, p ∈ List.zipWith Prod.mk l l → p.1 = p.2 := by
          intro l
          induction l with
          | nil => intro h; cases h
          | cons a l ih => intro h; simp only [List.zipWith_cons_cons, List.mem_cons] at h; exact h.elim (fun e => by rw [e]) ih
        exact ⟨hz hp, this.1⟩
      rw [← hpe.1]
      exact h2 _ hpe.2 _
    · cases h
  · obtain ⟨h1, h2⟩ := kb1_sound hr h hx hy
    exact ⟨h1, h2 _⟩

theorem setAt_zero (v : V) (en : V × V × Nat) (es : Es) : setAt v 0 (en :: es) = (en.1, v, en.2.2) :: es := rfl
theorem setAt_succ (v : V) (i : Nat) (en : V × V × Nat) (es : Es) : setAt v (i + 1) (en :: es) = en :: setAt v i es := rfl
theorem delAt_zero (en : V × V × Nat) (es : Es) : delAt 0 (en :: es) = es := rfl
theorem delAt_succ (i : Nat) (en : V × V × Nat) (es : Es) : delAt (i + 1) (en :: es) = en :: delAt i es := rfl

theorem EsR.at {es : Es} {l : List MapEntry} (h : EsR ρ es l) {i : Nat} {en : V × V × Nat} (hi : es[i]? = some en) : ∃ y, l[i]? = some y ∧ VR ρ en.1 y.key ∧ VR ρ en.2.1 y.val ∧ y.born = en.2.2 := by
  induction es generalizing l i with
  | nil => simp at hi
  | cons e0 es ih =>
    simp only [EsR] at h
    obtain ⟨y, ys, rfl, h1, h2, h3, h4⟩ := h
    cases i with
    | zero => simp at hi; subst hi; exact ⟨y, rfl, h1, h2, h3⟩
    | succ i => simpa using ih h4 (by simpa using hi)
theorem EsR.setAt {es : Es} {l : List MapEntry} (h : EsR ρ es l) {i : Nat} {v : V} {X : Value} {f : MapEntry → MapEntry} (hf : ∀ y, l[i]? = some y → (f y).key = y.key ∧ (f y).val = X ∧ (f y).born = y.born) (hv : VR ρ v X) :
    EsR ρ (Ev.setAt v i es) (l.modify i f) := by
  induction es generalizing l i with
  | nil => simp only [EsR] at h; subst h; cases i <;> simp [EsR, Ev.setAt]
  | cons e0 es ih =>
    simp only [EsR] at h
    obtain ⟨y, ys, rfl, h1, h2, h3, h4⟩ := h
    cases i with
    | zero =>
      obtain ⟨g1, g2, g3⟩ := hf y rfl
      rw [setAt_zero, List.modify_zero_cons]
      simp only [EsR]
      exact ⟨_, _, rfl, by rw [g1]; exact h1, by rw [g2]; exact hv, by rw [g3]; exact h3, h4⟩
    | succ i =>
      rw [setAt_succ, List.modify_succ_cons]
      simp only [EsR]
      exact ⟨_, _, rfl, h1, h2, h3, ih h4 fun y' hy => hf y' (by simpa using hy)⟩
theorem EsR.delAt {es : Es} {l : List MapEntry} (h : EsR ρ es l) (i : Nat) : EsR ρ (Ev.delAt i es) (l.eraseIdx i) := by
  induction es generalizing l i with
  | nil => simp only [EsR] at h; subst h; cases i <;> simp [EsR, Ev.delAt]
  | cons e0 es ih =>
    simp only [EsR] at h
    obtain ⟨y, ys, rfl, h1, h2, h3, h4⟩ := h
    cases i with
    | zero => rw [delAt_zero]; simpa using h4
    | succ i =>
      rw [delAt_succ, List.eraseIdx_cons_succ]
      simp only [EsR]
      exact ⟨_, _, rfl, h1, h2, h3, ih h4 i⟩
theorem EsR.push {es : Es} {l : List MapEntry} (h : EsR ρ es l) {k v : V} {y : MapEntry} (hk : VR ρ k y.key) (hv : VR ρ v y.val) : EsR ρ (es ++ [(k, v, y.born)]) (l ++ [y]) := by
  induction es generalizing l with
  | nil => simp only [EsR] at h; subst h; simp only [List.nil_append, EsR]; exact ⟨_, _, rfl, hk, hv, rfl, rfl⟩
  | cons e0 es ih =>
    simp only [EsR] at h
    obtain ⟨y', ys, rfl, h1, h2, h3, h4⟩ := h
    simp only [List.cons_append, EsR]
    exact ⟨_, _, rfl, h1, h2, h3, ih h4⟩

/-- a unit answer -/
def UOk (P : Program) (ρ : Ro) (st : St) (w : World) (r : Result Unit) (nx : Nx) : Prop :=
  ∃ st' w' ρ', nx = .val (.tup []) st' ∧ r = .ok () w' ∧ RH P ρ' st' w'.heap ∧ Ext ρ st w ρ' st' w'

theorem mapUpdate_sound (hr : RH P ρ st w.heap) {t : TypeId} {m k v : V} {M K X : Value} {nx : Nx} (h : Ev.mapUpdate P st t m k v = some nx) (hm : VR ρ m M) (hk : VR ρ k K) (hv : VR ρ v X) :
    UOk P ρ st w ((Instr.mapUpdate t M K X).run P w) nx := by
  unfold Ev.mapUpdate at h
  rw [obind_eq] at h
  obtain ⟨q, hq, h⟩ := h
  have hu := mapT_eq hq
  obtain ⟨h1, h2⟩ := ok_eq.1 h
  clear h
  cases m <;> first | (cases h2; done) | skip
  rename_i id
  simp only at h2
  obtain ⟨es, cl, hb, h3⟩ := mapAt_eq h2
  rw [obind_eq] at h3
  obtain ⟨r, hr', h4⟩ := h3
  obtain ⟨p, hp, rfl⟩ := hm.map_at hr hb
  obtain ⟨o, ho, hpc, arr, rfl, he⟩ := hr.block hp hb
  obtain ⟨u, huk⟩ := keyV_under h1
  have hck := keyV_sound (P := P) (ρ := ρ) (w := w) false 8 10000 (by omega) _ _ _ h1 hk
  obtain ⟨r', hf, hfr⟩ := findKey_sound hr huk hk hr' he
  have hg := r_getObj (P := P) ho (by simp)
  cases r with
  | none =>
    simp only at h4
    cases h4
    simp only [FR] at hfr
    subst hfr
    refine ⟨_, { w with heap := w.heap.setIfInBounds p.r (.map (arr.push { key := K, val := X, born := cl }) (cl + 1)) }, ρ, rfl, ?_, ?_, ?_⟩
    · simp [Instr.mapUpdate, r_under hu, hg, hck, hf, r_setObj ho]
    · refine hr.turn hp ⟨hpc, _, rfl, ?_⟩
      rw [Array.toList_push]
      exact he.push (y := { key := K, val := X, born := cl }) hk hv
    · exact Ext.turn hr hp hb fun _ _ _ hh => by cases hh
  | some pr =>
    simp only at h4
    rw [obind_eq] at h4
    obtain ⟨en, hen, h5⟩ := h4
    obtain ⟨h6, h7⟩ := ok_eq.1 h5
    cases h7
    obtain ⟨x, rfl, _⟩ := hfr
    rw [nth_eq] at hen
    obtain ⟨y, hy, hyk, hyv, hyb⟩ := he.at hen
    obtain ⟨h8, h9⟩ := kb_sound hr h6 hyk hk
    rw [h8] at h9
    have hy' : arr[pr.1]? = some y := by rw [← Array.getElem?_toList]; exact hy
    refine ⟨_, { w with heap := w.heap.setIfInBounds p.r (.map (arr.modify pr.1 fun e => { e with key := K, val := X }) cl) }, ρ, rfl, ?_, ?_, ?_⟩
    · have hks : (Instr.keyThatStays (((arr[pr.1]?).map (·.key)).getD K) K).run P w = .ok K w := by
        rw [hy']
        simp only [Option.map_some, Option.getD_some, Instr.keyThatStays, h8, h9, if_true, Sem.run_pure]
      simp only [Instr.mapUpdate, Sem.run_bind, r_under hu, Result.andThen_ok, hg, hck, hf, Nat.zero_add]
      rw [hks]
      exact r_setObj ho (by simp)
    · refine hr.turn hp ⟨hpc, _, rfl, ?_⟩
      rw [Array.toList_modify]
      exact he.setAt (fun y' hy'' => by
        rw [hy] at hy''
        cases hy''
        exact ⟨h8.symm, rfl, rfl⟩) hv
    · exact Ext.turn hr hp hb fun _ _ _ hh => by cases hh

theorem delete_sound (hr : RH P ρ st w.heap) {t ty : TypeId} {ts : Array TypeId} {m k : V} {M K : Value} {nx : Nx} (ht : ts[0]? = some t) (h : deleteV P st t m k = some nx) (hm : VR ρ m M) (hk : VR ρ k K) :
    VOk P ρ st w ((Builtin.delete_ ts ty #[M, K]).run P w) nx := by
  unfold deleteV at h
  rw [obind_eq] at h
  obtain ⟨q, hq, h⟩ := h
  have hu := mapT_eq hq
  obtain ⟨h1, h2⟩ := ok_eq.1 h
  clear h
  have hck := fun em => keyV_sound (P := P) (ρ := ρ) (w := w) em 8 10000 (by omega) _ _ _ h1 hk
  cases m <;> first | (cases h2; done) | skip
  case nilm =>
    simp only at h2
    cases h2
    simp only [VR] at hm
    subst hm
    exact ⟨_, _, undef, w, ρ, rfl, by simp [Builtin.delete_, ht, r_under hu, hck]; rfl, VR.unit, hr, Ext.refl _ _ _⟩
  case map id =>
    simp only at h2
    obtain ⟨es, cl, hb, h3⟩ := mapAt_eq h2
    rw [obind_eq] at h3
    obtain ⟨r, hr', h4⟩ := h3
    obtain ⟨p, hp, rfl⟩ := hm.map_at hr hb
    obtain ⟨o, ho, hpc, arr, rfl, he⟩ := hr.block hp hb
    obtain ⟨u, huk⟩ := keyV_under h1
    obtain ⟨r', hf, hfr⟩ := findKey_sound hr huk hk hr' he
    have hg := r_getObj (P := P) ho (by simp)
    cases r with
    | none =>
      simp only at h4
      cases h4
      simp only [FR] at hfr
      subst hfr
      have hself : w.heap.setIfInBounds p.r (.map arr cl) = w.heap := by
        apply Array.ext_getElem?
        intro j
        rw [Array.getElem?_setIfInBounds]
        split
        · rename_i hj; subst hj
          have hlt := (Array.getElem?_eq_some_iff.1 ho).1
          rw [if_pos hlt, ho]
        · rfl
      refine ⟨_, _, undef, w, ρ, rfl, ?_, VR.unit, hr, Ext.refl _ _ _⟩
      simp [Builtin.delete_, ht, r_under hu, hg, hck, hf, r_setObj ho, hself]
      rfl
    | some pr =>
      simp only at h4
      cases h4
      obtain ⟨x, rfl, _⟩ := hfr
      refine ⟨_, _, undef, { w with heap := w.heap.setIfInBounds p.r (.map (arr.eraseIdxIfInBounds pr.1) cl) }, ρ, rfl, ?_, VR.unit, ?_, ?_⟩
      · simp [Builtin.delete_, ht, r_under hu, hg, hck, hf, r_setObj ho]
        rfl
      · refine hr.turn hp ⟨hpc, _, rfl, ?_⟩
        rw [Array.toList_eraseIdxIfInBounds]
        exact he.delAt _
      · exact Ext.turn hr hp hb fun _ _ _ hh => by cases hh
end
end Go.Ev


/- What acts: calls of functions without a body. -/
namespace Go.Ev
section
variable {P : Program} {ρ : Ro} {st : St} {e : Env} {a : Act} {w : World}

/-- what a function without a body is, of each kind -/
def XIs (P : Program) (k : XK) (g : Array Value → Sem Value) : Prop := match k with
  | .noEscape => g = Extern.AbiNoEscape.same
  | .nothing => ∀ args (w : World), (g args).run P w = .ok undef w
  | .marked => ∃ m, g = Extern.Race.marked m
  | .loadI k => g = Extern.Atomic.loadT (.int k)
  | .storeI => g = Extern.Atomic.storeT
  | .addI k => g = Extern.Atomic.update (Op.intArith .add) k true
  | .casI k => g = Extern.Atomic.casT (.int k)
  | .indexByte => g = Extern.BytealgIndexByte.indexByte

theorem args1_arr {l : List V} {A : Array Value} {v : V} (h : VRs ρ l A.toList) (hl : l = [v]) : ∃ X, A = #[X] ∧ VR ρ v X := by
  subst hl
  simp only [VRs] at h
  obtain ⟨X, _, h1, h2, rfl⟩ := h
  exact ⟨X, Array.toList_inj.1 h1, h2⟩
theorem args2_arr {l : List V} {A : Array Value} {u v : V} (h : VRs ρ l A.toList) (hl : l = [u, v]) : ∃ X Y, A = #[X, Y] ∧ VR ρ u X ∧ VR ρ v Y := by
  subst hl
  simp only [VRs] at h
  obtain ⟨X, _, h1, h2, Y, _, rfl, h3, rfl⟩ := h
  exact ⟨X, Y, Array.toList_inj.1 h1, h2, h3⟩
theorem args3_arr {l : List V} {A : Array Value} {u v x : V} (h : VRs ρ l A.toList) (hl : l = [u, v, x]) : ∃ X Y Z, A = #[X, Y, Z] ∧ VR ρ u X ∧ VR ρ v Y ∧ VR ρ x Z := by
  subst hl
  simp only [VRs] at h
  obtain ⟨X, _, h1, h2, Y, _, rfl, h3, Z, _, rfl, h4, rfl⟩ := h
  exact ⟨X, Y, Z, Array.toList_inj.1 h1, h2, h3, h4⟩

theorem xcell_sound (hr : RH P ρ st w.heap) {v : V} {X : Value} {k : Nat → Nat → Fz → Option TypeId → Nat → Tr V → IntKind → Int → Option Nx} {nx : Nx} (h : xcell st v k = some nx) (hv : VR ρ v X) :
    ∃ id off z e n c kk m p, k id off z e n c kk m = some nx ∧ ρ id = some (some p) ∧ X = .pointer (some ⟨p.r, p.o + off, none⟩) ∧ st.h.get id = some (.cells z e n c) ∧ off < n ∧ w.cell? ⟨p.r, p.o + off, none⟩ = some (.int kk m) := by
  unfold xcell at h
  obtain ⟨id, off, rfl, h1⟩ := vptr_eq h
  obtain ⟨z, e, n, c, hb, h2⟩ := cellsAt_eq h1
  obtain ⟨h3, h4⟩ := ok_eq.1 h2
  rw [obind_eq] at h4
  obtain ⟨x, hx, h5⟩ := h4
  obtain ⟨kk, m, rfl, h6⟩ := vint_eq h5
  have h3 : off < n := by simpa [Nat.blt_eq] using h3
  obtain ⟨p, hp, rfl⟩ := hv.ptr_at hr hb
  obtain ⟨cs, el', fz, hh, _, _, _, hcok, _⟩ := hr.cells hp hb
  obtain ⟨_, y, hy, hyr⟩ := hcok off _ h3 hx
  simp only [VR] at hyr
  subst hyr
  exact ⟨id, off, z, e, n, c, kk, m, p, h6, hp, rfl, hb, h3, by rw [World.cell_at hh]; exact hy⟩

theorem store_mode {A : Addr} {X u : Value} {w' : World} (m : Mode) (h : (storeCells A [X]).run P w = .ok () w') (hc : w.cell? A = some u) (ho : X.oneCell' = true) : (store A X m).run P w = .ok () w' := by
  have e : A.add 0 = A := by simp [Addr.add]
  simp only [storeCells, Sem.run_bind, e] at h
  rw [run_store P w A X _ ho, hc] at h ⊢
  simp only at h ⊢
  by_cases hf : w.frozen? A = true
  · rw [if_pos hf] at h; cases h
  · rw [if_neg hf] at h ⊢
    exact h

theorem put_sound (hr : RH P ρ st w.heap) {id off : Nat} {z : Fz} {e : Option TypeId} {n : Nat} {c : Tr V} {v r : V} {X u : Value} {p : Pl} {nx : Nx} (h : xput st id off z e n c v r = some nx) (hp : ρ id = some (some p)) (hb : st.h.get id = some (.cells z e n c)) (hoff : off < n)
    (hv : VR ρ v X) (hm : v.many = false) (hc : w.cell? ⟨p.r, p.o + off, none⟩ = some u) :
    ∃ w', (store ⟨p.r, p.o + off, none⟩ X .atomic).run P w = .ok () w' ∧ nx = .val r (st.upd id (.cells z e n (c.set off v))) ∧ RH P ρ (st.upd id (.cells z e n (c.set off v))) w'.heap ∧ Ext ρ st w ρ (st.upd id (.cells z e n (c.set off v))) w' := by
  unfold xput at h
  obtain ⟨h1, h2⟩ := ok_eq.1 h
  cases h2
  have hw : wrt z = true := by cases z <;> first | rfl | (cases h1)
  obtain ⟨w', h3, h4, h5⟩ := hr.write (P := P) (off := off) (l := [v]) (xs := [X]) hp hb hw (VRs.cons hv VRs.nil) (by rw [allOne_cons, hm]; rfl) (by simp; omega)
  exact ⟨w', store_mode .atomic h3 hc (hv.one hm), rfl, h4, h5⟩

theorem store_free {A : Addr} {k : IntKind} {m n : Int} (hc : w.cell? A = some (.int k m)) (hz : w.frozen? A = false) : (store A (.int k n) .atomic).run P w = .ok () (w.setCell A (.int k n)) := by
  rw [run_store P w A _ _ rfl, hc]
  simp [hz]

theorem findB_sound {s : List Nat} (hs : small s) {c : Nat} (hc : c < 256) :
    ∀ (k : Nat) (t : List Nat), s.drop k = t → (match (List.range' k t.length).find? (fun i => (strOf s)[i]! == c.toUInt8) with | some i => (i : Int) | none => -1) = findB c t k
  | k, [], h => rfl
  | k, b :: t, h => by
    have hk : s[k]? = some b := by
      have : (s.drop k)[0]? = some b := by rw [h]; rfl
      rw [List.getElem?_drop] at this
      simpa using this
    have hd : s.drop (k + 1) = t := by
      have := congrArg (List.drop 1) h
      rw [List.drop_drop] at this
      simpa using this
    obtain ⟨x, hx, hxb⟩ := strOf_get hs hk
    have hb256 := hs b (List.mem_of_getElem? hk)
    have hg : (strOf s)[k]! = x := by rw [getElem!_def, hx]
    rw [show findB c (b :: t) k = sel (Nat.beq b c) (Int.ofNat k) (findB c t (Nat.add k 1)) from rfl, sel_eq]
    rw [List.length_cons, List.range'_succ, List.find?_cons]
    have hiff : ((strOf s)[k]! == c.toUInt8) = Nat.beq b c := by
      rw [hg, Bool.eq_iff_iff, beq_iff_eq, Nat.beq_eq, ← UInt8.toNat_inj, hxb]
      simp [Nat.mod_eq_of_lt hc]
    rw [hiff]
    cases hbc : Nat.beq b c with
    | true => rfl
    | false => exact findB_sound hs hc (k + 1) t hd

theorem loadT_eq (t : Extern.Atomic.T) (x : Value) : Extern.Atomic.loadT t #[x] = (do Extern.Atomic.read t (← asAddr x)) := rfl
theorem storeT_eq (x v : Value) : Extern.Atomic.storeT #[x, v] = (do store (← asAddr x) v .atomic; pure undef) := rfl
theorem xcall_sound (hr : RH P ρ st w.heap) {k : XK} {g : Array Value → Sem Value} {args : List V} {A : Array Value} {nx : Nx} (hg : XIs P k g) (h : xcall st k args = some nx) (ha : VRs ρ args A.toList) : VOk P ρ st w ((g A).run P w) nx := by
  cases k with
  | noEscape =>
    simp only [XIs] at hg
    subst hg
    obtain ⟨x, hl, h⟩ := args1_eq h
    cases h
    obtain ⟨X, rfl, hX⟩ := args1_arr ha hl
    exact ⟨_, _, X, w, ρ, rfl, rfl, hX, hr, Ext.refl _ _ _⟩
  | nothing =>
    cases h
    exact ⟨_, _, undef, w, ρ, rfl, hg A w, VR.unit, hr, Ext.refl _ _ _⟩
  | marked =>
    obtain ⟨m, rfl⟩ := hg
    obtain ⟨x, hl, h⟩ := args1_eq h
    obtain ⟨id, off, rfl, h⟩ := vptr_eq h
    cases h
    obtain ⟨X, rfl, hX⟩ := args1_arr ha hl
    have : ∃ B, X = .pointer (some B) := by
      simp only [VR] at hX
      rcases hX with ⟨_, _, rfl⟩ | ⟨_, B, rfl⟩ <;> exact ⟨_, rfl⟩
    obtain ⟨B, rfl⟩ := this
    exact ⟨_, _, undef, w, ρ, rfl, by simp [Extern.Race.marked, Extern.Race.at_]; rfl, VR.unit, hr, Ext.refl _ _ _⟩
  | loadI k =>
    simp only [XIs] at hg
    subst hg
    obtain ⟨x, hl, h⟩ := args1_eq h
    obtain ⟨X, rfl, hX⟩ := args1_arr ha hl
    obtain ⟨id, off, z, e, n, c, kk, m, p, h1, hp, rfl, hb, hoff, hcell⟩ := xcell_sound hr h hX
    obtain ⟨h2, h3⟩ := ok_eq.1 h1
    cases h3
    have h2 : k = kk := by simpa using h2
    subst h2
    exact ⟨_, _, .int k m, w, ρ, rfl, by rw [loadT_eq]; simp [asAddr, Extern.Atomic.read, hcell], by simp only [VR], hr, Ext.refl _ _ _⟩
  | storeI =>
    simp only [XIs] at hg
    subst hg
    obtain ⟨x, v, hl, h⟩ := args2_eq h
    obtain ⟨X, Y, rfl, hX, hY⟩ := args2_arr ha hl
    obtain ⟨k, i, rfl, h⟩ := vint_eq h
    obtain ⟨id, off, rfl, h⟩ := vptr_eq h
    obtain ⟨z, e, n, c, hb, h⟩ := cellsAt_eq h
    obtain ⟨h1, h2⟩ := ok_eq.1 h
    have hoff : off < n := by simpa [Nat.blt_eq] using h1
    have hz : wrt z = true := by
      unfold xput at h2
      obtain ⟨h3, _⟩ := ok_eq.1 h2
      cases z <;> first | rfl | (cases h3)
    obtain ⟨p, hp, rfl⟩ := hX.ptr_at hr hb
    obtain ⟨cs, el', fz, hh, _, hcs, hpn, hcok, hfz, _⟩ := hr.cells hp hb
    have hlt : p.o + off < cs.size := by omega
    simp only [VR] at hY
    subst hY
    have hcell : w.cell? ⟨p.r, p.o + off, none⟩ = some cs[p.o + off] := by rw [World.cell_at hh]; exact Array.getElem?_eq_getElem hlt
    obtain ⟨w', h4, rfl, h5, h6⟩ := put_sound hr h2 hp hb hoff (X := .int k i) (by simp only [VR]) rfl hcell
    exact ⟨_, _, undef, w', ρ, rfl, by rw [storeT_eq]; simp [asAddr, h4], VR.unit, h5, h6⟩
  | addI k =>
    simp only [XIs] at hg
    subst hg
    obtain ⟨x, v, hl, h⟩ := args2_eq h
    obtain ⟨X, Y, rfl, hX, hY⟩ := args2_arr ha hl
    obtain ⟨k', i, rfl, g1⟩ := vint_eq h
    clear h
    obtain ⟨hk', g2⟩ := ok_eq.1 g1
    clear g1
    have hk2 : k = k' := by simpa using hk'
    subst hk2
    obtain ⟨id, off, z, e, n, c, kk, m, p, h1, hp, rfl, hb, hoff, hcell⟩ := xcell_sound hr g2 hX
    obtain ⟨h2, h3⟩ := ok_eq.1 h1
    have h2 : k = kk := by simpa using h2
    subst h2
    simp only [VR] at hY
    subst hY
    obtain ⟨cs, el', fz, hh, _, _, _, _, hfz, _⟩ := hr.cells hp hb
    have hz : z = .free := by unfold xput at h3; cases z <;> first | rfl | (cases h3)
    subst hz
    simp only [FzOk] at hfz
    subst hfz
    obtain ⟨w', h4, rfl, h5, h6⟩ := put_sound hr h3 hp hb hoff (X := .int k (wr k (Int.add m i))) (by simp only [VR]) rfl hcell
    refine ⟨_, _, .int k (wr k (Int.add m i)), w', ρ, rfl, ?_, by simp only [VR], h5, h6⟩
    rw [wr_eq] at h4 ⊢
    rw [store_free hcell (FzOk.free_frozen hh)] at h4
    cases h4
    exact Conc.run_add_entry hcell (FzOk.free_frozen hh)
  | casI k =>
    simp only [XIs] at hg
    subst hg
    obtain ⟨x, o, v, hl, h⟩ := args3_eq h
    obtain ⟨X, O, Y, rfl, hX, hO, hY⟩ := args3_arr ha hl
    obtain ⟨k', old, rfl, hx1⟩ := vint_eq h
    clear h
    obtain ⟨k'', new, rfl, g0⟩ := vint_eq hx1
    clear hx1
    obtain ⟨hk', g1⟩ := ok_eq.1 g0
    obtain ⟨hk'', g2⟩ := ok_eq.1 g1
    clear g0 g1
    have hk2 : k = k' := by simpa using hk'
    subst hk2
    have hk3 : k = k'' := by simpa using hk''
    subst hk3
    obtain ⟨id, off, z, e, n, c, kk, m, p, h1, hp, rfl, hb, hoff, hcell⟩ := xcell_sound hr g2 hX
    obtain ⟨h2, h3⟩ := ok_eq.1 h1
    obtain ⟨h4, h5⟩ := ok_eq.1 h3
    have h2 : k = kk := by simpa using h2
    subst h2
    simp only [VR] at hO hY
    subst hO
    subst hY
    obtain ⟨cs, el', fz, hh, _, _, _, _, hfz, _⟩ := hr.cells hp hb
    have hz : z = .free := by cases z <;> first | rfl | (cases h4)
    subst hz
    simp only [FzOk] at hfz
    subst hfz
    rw [sel_eq, ieq_eq] at h5
    split at h5
    · rename_i he
      have he : m = old := by simpa using he
      subst he
      obtain ⟨w', h6, rfl, h7, h8⟩ := put_sound hr h5 hp hb hoff (X := .int k new) (by simp only [VR]) rfl hcell
      refine ⟨_, _, .bool true, w', ρ, rfl, ?_, by simp only [VR], h7, h8⟩
      rw [store_free hcell (FzOk.free_frozen hh)] at h6
      cases h6
      rw [Conc.casT_eq]
      exact Conc.run_cas_hit_entry hcell (FzOk.free_frozen hh)
    · rename_i he
      have he : (m == old) = false := by simpa using he
      cases h5
      refine ⟨_, _, .bool false, w, ρ, rfl, ?_, by simp only [VR], hr, Ext.refl _ _ _⟩
      have he2 : ¬ m = old := by simpa using he
      rw [Conc.casT_eq]
      exact Conc.run_cas_miss_entry hcell (FzOk.free_frozen hh) he2
  | indexByte =>
    simp only [XIs] at hg
    subst hg
    obtain ⟨s, c, hl, h⟩ := args2_eq h
    obtain ⟨X, Y, rfl, hX, hY⟩ := args2_arr ha hl
    cases c <;> first | (cases h; done) | skip
    rename_i kk i
    cases kk <;> first | (cases h; done) | skip
    obtain ⟨m, rfl, h2⟩ := inat_eq h
    obtain ⟨h3, h4⟩ := ok_eq.1 h2
    have h1 : m < 256 := by simpa [Nat.blt_eq] using h3
    cases s <;> first | (cases h4; done) | skip
    rename_i s
    cases h4
    simp only [VR] at hX hY
    obtain ⟨hs, rfl⟩ := hX
    subst hY
    have := findB_sound hs h1 0 s rfl
    rw [← List.range_eq_range'] at this
    refine ⟨_, _, .int .i64 (findB m s 0), w, ρ, rfl, ?_, by simp only [VR], hr, Ext.refl _ _ _⟩
    rw [← this, run_indexByte_string]
    unfold firstIdx
    rw [strOf_size, Int.toNat_natCast]
    congr 2
end
end Go.Ev


/- What acts: all together. -/
namespace Go.Ev
section
variable {P : Program} {ρ : Ro} {st : St} {e : Env} {a : Act} {w : World} {xt : FuncId → Option XK}

/-- what is asked of the program -/
structure PH (P : Program) (xt : FuncId → Option XK) : Prop where
  mixed : P.follows .mixedOrders = true
  name : ∀ (f : FuncId) (fn : Func), P.funcs[f]? = some fn → (fn.name == "runtime.NumGoroutine") = false
  ext : ∀ (f : FuncId) (fn : Func) (k : XK), P.funcs[f]? = some fn → fn.body = none → xt f = some k → Extern.findNext fn = none ∧ ∃ g, Extern.find fn = some g ∧ XIs P k g

theorem VOk.nx {r : Result Value} {nx : Nx} (h : VOk P ρ st w r nx) : NxOk P ρ st w (r.andThen fun v w' => .ok (.value v) w') nx := by
  obtain ⟨v, st', Z, w', ρ', rfl, rfl, h1, h2, h3⟩ := h
  exact ⟨.value Z, Z, w', ρ', rfl, .inl rfl, h1, h2, h3⟩
theorem UOk.nx {r : Result Unit} {nx : Nx} (h : UOk P ρ st w r nx) : NxOk P ρ st w (r.andThen fun _ w' => .ok .skip w') nx := by
  obtain ⟨st', w', ρ', rfl, rfl, h2, h3⟩ := h
  exact ⟨.skip, undef, w', ρ', rfl, .inr ⟨rfl, rfl⟩, VR.unit, h2, h3⟩

theorem hasBody_eq {f : FuncId} {b : Bool} (h : hasBody P f = some b) : ∃ fn, P.funcs[f]? = some fn ∧ fn.body.isSome = b := by
  unfold hasBody at h
  split at h
  · rename_i fn hf; cases h; exact ⟨fn, hf, rfl⟩
  · cases h

theorem callFn_sound (hP : PH P xt) (hr : RH P ρ st w.heap) {f : FuncId} {args : List V} {A : Array Value} {nx : Nx} (h : callFn P xt st f args = some nx) (ha : VRs ρ args A.toList) :
    NxOk P ρ st w ((callFunc f A).run P w) nx := by
  unfold callFn at h
  rw [obind_eq] at h
  obtain ⟨b, hb, h⟩ := h
  obtain ⟨fn, hf, hbd⟩ := hasBody_eq hb
  have hname := hP.name f fn hf
  have hq : ∀ {b' : Bool}, b' = (fn.name == "runtime.NumGoroutine") → b' = false := fun hh => by rw [hh]; exact hname
  cases b with
  | true =>
    cases h
    refine ⟨A, ?_, ha⟩
    have : fn.body.isNone = false := by cases hc : fn.body with | none => rw [hc] at hbd; cases hbd | some c => rfl
    simp only [callFunc, Sem.run_bind, run_program, Result.andThen_ok, hf, hname, this, Bool.false_eq_true, if_false, Sem.run_pure]
  | false =>
    rw [sel_false, obind_eq] at h
    obtain ⟨k, hk, h⟩ := h
    have hn : fn.body = none := by cases hc : fn.body with | none => rfl | some c => rw [hc] at hbd; cases hbd
    obtain ⟨h1, g, h2, h3⟩ := hP.ext f fn k hf hn hk
    have := (xcall_sound hr h3 h ha).nx
    have h4 : fn.body.isNone = true := by rw [hn]; rfl
    simpa only [callFunc, Sem.run_bind, run_program, Result.andThen_ok, hf, hname, h4, Bool.false_eq_true, if_false, if_true, run_mark, h1, h2, Sem.run_pure] using this

theorem VRs.appendA {l l' : List V} {A B : Array Value} (h : VRs ρ l A.toList) (k : VRs ρ l' B.toList) : VRs ρ (l ++ l') (A ++ B).toList := by
  rw [Array.toList_append]
  exact h.append k

theorem act_sound (hP : PH P xt) (hr : RH P ρ st w.heap) {o : Oper} (ht : HO P ρ e a o) {H : HE} {nx : Nx} (hc : cd P xt o.op = .act H) (hv : H e st = some nx) :
    NxOk P ρ st w ((execOp a.eval o).run P w) nx := by
  cases ho : o.op <;> rw [ho] at hc <;> first | (cases hc; done) | skip
  case store t x y =>
    cases hc
    unfold eStore at hv
    rw [obind_eq] at hv
    obtain ⟨A, hA, hv⟩ := hv
    have hAr := ht _ (by simp [ho, Op.operands]) _ hA
    obtain ⟨id, off, rfl, h1⟩ := vptr_eq hv
    rw [obind_eq] at h1
    obtain ⟨Y, hY, h1⟩ := h1
    rw [obind_eq] at h1
    obtain ⟨s, hs, h1⟩ := h1
    have := store_sound hr hs h1 hAr (ht _ (by simp [ho, Op.operands]) _ hY)
    simp only [execOp, ho]
    simpa only [Sem.run_bind, Sem.run_pure] using this
  case convert s d x =>
    simp only [cd, cdConvert] at hc
    split at hc
    · rename_i k hk
      split at hc
      · rename_i e0
        cases hc
        unfold eBytes at hv
        rw [obind_eq] at hv
        obtain ⟨A, hA, hv⟩ := hv
        have hAr := ht _ (by simp [ho, Op.operands]) _ hA
        split at hv
        · obtain ⟨_, h2⟩ := ok_eq.1 hv
          cases h2
          obtain ⟨h3, h4, h5⟩ := cvK_eq hk
          simp only [VR] at hAr
          obtain ⟨hs, hAe⟩ := hAr
          have := (bytes_sound (el := e0) hr hs).nx
          simp only [execOp, ho, hAe]
          simpa only [convert, Sem.run_bind, r_under h3, r_under h4, r_under h5, Result.andThen_ok, Sem.run_pure] using this
        · cases hv
      · cases hc
    · cases hc
  case makeFunc f first cap => cases f <;> cases hc
  case makeSlice t l c =>
    cases hc
    unfold eMkSlice at hv
    rw [obind_eq] at hv
    obtain ⟨el, hel, hv⟩ := hv
    rw [obind_eq] at hv
    obtain ⟨L, hL, hv⟩ := hv
    rw [obind_eq] at hv
    obtain ⟨C, hC, hv⟩ := hv
    obtain ⟨k1, l0, rfl, h1⟩ := natOf_eq hv
    obtain ⟨k2, c0, rfl, h2⟩ := natOf_eq h1
    obtain ⟨h3, h4⟩ := ok_eq.1 h2
    obtain ⟨h5, h6⟩ := ok_eq.1 h4
    obtain ⟨h7, h8⟩ := ok_eq.1 h6
    cases h8
    have hLr := ht _ (by simp [ho, Op.operands]) _ hL
    have hCr := ht _ (by simp [ho, Op.operands]) _ hC
    simp only [VR] at hLr hCr
    have := (mkSlice_sound (k1 := k1) (k2 := k2) hr hel (Nat.le_of_ble_eq_true h3) (Nat.le_of_ble_eq_true h5) (Nat.le_of_ble_eq_true h7)).nx
    simp only [execOp, ho, hLr, hCr]
    simpa only [Sem.run_bind, Sem.run_pure] using this
  case slice t x lo hi mx =>
    simp only [cd] at hc
    split at hc
    · split at hc <;> cases hc
    · cases hc
  case binOp op t x y u => cases op <;> cases hc
  case mapUpdate t m k x =>
    cases hc
    unfold eMapUpdate at hv
    rw [obind_eq] at hv
    obtain ⟨M, hM, hv⟩ := hv
    rw [obind_eq] at hv
    obtain ⟨K, hK, hv⟩ := hv
    rw [obind_eq] at hv
    obtain ⟨X, hX, hv⟩ := hv
    have := (mapUpdate_sound hr hv (ht _ (by simp [ho, Op.operands]) _ hM) (ht _ (by simp [ho, Op.operands]) _ hK) (ht _ (by simp [ho, Op.operands]) _ hX)).nx
    simp only [execOp, ho]
    simpa only [Sem.run_bind, Sem.run_pure] using this
  case range t x =>
    cases hc
    unfold eRange at hv
    rw [obind_eq] at hv
    obtain ⟨A, hA, hv⟩ := hv
    have := (range_sound hr (ht _ (by simp [ho, Op.operands]) _ hA) hv).nx
    simp only [execOp, ho]
    simpa only [Sem.run_bind, Sem.run_pure] using this
  case next it isS =>
    cases hc
    unfold eNext at hv
    rw [obind_eq] at hv
    obtain ⟨A, hA, hv⟩ := hv
    have hAr := ht _ (by simp [ho, Op.operands]) _ hA
    obtain ⟨id, off, rfl, h1⟩ := vptr_eq hv
    have := (next_sound (ty := o.type) hr hAr h1).nx
    simp only [execOp, ho]
    simpa only [Sem.run_bind, Sem.run_pure] using this
  case call c =>
    simp only [cd, cdCall] at hc
    split at hc
    · rename_i b hb
      have hH : H = eCallB P b c.argTypes.toList c.args.toList := by cases b <;> first | (cases hc; rfl) | (cases hc; done)
      subst hH
      unfold eCallB at hv
      rw [obind_eq] at hv
      obtain ⟨l, hl, hv⟩ := hv
      have hlr := eosA (f := a.eval) (fun x hx => ht x (by simp [ho, Op.operands, Call.operands, hx])) hl
      have run : ∀ {f : Sem Value}, (∀ cs, builtin b c.argTypes o.type cs (c.args.map a.eval) = (do pure (.value (← f)))) → VOk P ρ st w (f.run P w) nx → NxOk P ρ st w ((execOp a.eval o).run P w) nx := by
        intro f hf hk
        have : (execOp a.eval o).run P w = (f.run P w).andThen fun v w' => .ok (.value v) w' := by
          simp only [execOp, ho, resolve, hb]
          show (builtin b c.argTypes o.type _ (c.args.map a.eval)).run P w = _
          rw [hf]
          simp
        rw [this]
        exact hk.nx
      cases b <;> first | (cases hv; done) | (cases hc; done) | skip
      case append =>
        obtain ⟨s, x, hx, h1⟩ := args2_eq hv
        obtain ⟨S, X, hA, hS, hX⟩ := args2_arr hlr hx
        rw [obind_eq] at h1
        obtain ⟨t, ht', h1⟩ := h1
        rw [obind_eq] at h1
        obtain ⟨u, hu', h1⟩ := h1
        exact run (f := Builtin.append_ c.argTypes o.type #[S, X]) (fun cs => by rw [hA]; rfl) (append_sound hr (nth0 ht') (nth0 hu') h1 hS hX)
      case copy =>
        obtain ⟨s, x, hx, h1⟩ := args2_eq hv
        obtain ⟨S, X, hA, hS, hX⟩ := args2_arr hlr hx
        rw [obind_eq] at h1
        obtain ⟨t, ht', h1⟩ := h1
        exact run (f := Builtin.copy_ c.argTypes o.type #[S, X]) (fun cs => by rw [hA]; rfl) (copy_sound hr (nth0 ht') h1 hS hX)
      case clear =>
        obtain ⟨x, hx, h1⟩ := args1_eq hv
        obtain ⟨X, hA, hX⟩ := args1_arr hlr hx
        rw [obind_eq] at h1
        obtain ⟨t, ht', h1⟩ := h1
        exact run (f := Builtin.clear_ c.argTypes o.type #[X]) (fun cs => by rw [hA]; rfl) (clear_sound hr (nth0 ht') h1 hX)
      case delete =>
        obtain ⟨s, x, hx, h1⟩ := args2_eq hv
        obtain ⟨S, X, hA, hS, hX⟩ := args2_arr hlr hx
        rw [obind_eq] at h1
        obtain ⟨t, ht', h1⟩ := h1
        exact run (f := Builtin.delete_ c.argTypes o.type #[S, X]) (fun cs => by rw [hA]; rfl) (delete_sound hr (nth0 ht') h1 hS hX)
      case unsafeString =>
        obtain ⟨s, x, hx, h1⟩ := args2_eq hv
        obtain ⟨S, X, hA, hS, hX⟩ := args2_arr hlr hx
        split at h1
        · rename_i t u hts
          have hta : c.argTypes = #[t, u] := Array.toList_inj.1 hts
          rw [hta] at run
          exact run (f := Builtin.unsafeString_ #[t, u] o.type #[S, X]) (fun cs => by rw [hA]; rfl) (unsString_sound hr h1 hS hX)
        · cases h1
    · rename_i fo hfo
      have hops : ∀ x ∈ c.args, x ∈ o.op.operands.toList := fun x hx => by simp [ho, Op.operands, Call.operands, hx]
      split at hc
      · rename_i f
        cases hc
        unfold eCallF at hv
        rw [obind_eq] at hv
        obtain ⟨l, hl, hv⟩ := hv
        have hlr := eosA (f := a.eval) (fun x hx => ht x (hops x hx)) hl
        have := callFn_sound hP hr hv hlr
        have e : (execOp a.eval o).run P w = (callFunc f (c.args.map a.eval)).run P w := by
          simp only [execOp, ho, resolve, hfo]
          show (callFunc f ((#[] ++ c.args.map a.eval) ++ #[])).run P w = _
          simp
        rw [e]
        exact this
      · cases hc
        unfold eCallV at hv
        rw [obind_eq] at hv
        obtain ⟨l, hl, hv⟩ := hv
        rw [obind_eq] at hv
        obtain ⟨fv, hfv, hv⟩ := hv
        have hlr := eosA (f := a.eval) (fun x hx => ht x (hops x hx)) hl
        have hfr := ht fo (by simp [ho, Op.operands, Call.operands, hfo]) _ hfv
        unfold callV at hv
        split at hv
        · rename_i f first cap
          simp only [VR] at hfr
          obtain ⟨A, B, hfe, h1, h2⟩ := hfr
          have := callFn_sound hP hr hv (h1.appendA (hlr.appendA h2))
          have e : (execOp a.eval o).run P w = (callFunc f (A ++ (c.args.map a.eval ++ B))).run P w := by
            simp only [execOp, ho, resolve, hfo, hfe]
            show (callFunc f ((A ++ c.args.map a.eval) ++ B)).run P w = _
            rw [Array.append_assoc]
          rw [e]
          exact this
        · rename_i id
          cases hv
          have hfr' := hfr
          simp only [VR] at hfr
          have hl' : ∃ l, a.eval fo = .func (.yield l) #[] #[] := by
            rcases hfr with ⟨_, _, h⟩ | ⟨_, l, h⟩ <;> exact ⟨_, h⟩
          obtain ⟨l0, hfe⟩ := hl'
          refine ⟨l0, c.args.map a.eval, by rw [← hfe]; exact hfr', hlr, ?_⟩
          simp only [execOp, ho, resolve, hfo, hfe]
          show (Instr.yield l0 (#[] ++ c.args.map a.eval)).run P w = _
          simp
        · cases hv
    · cases hc
  case defer c =>
    simp only [cd] at hc
    split at hc
    · rename_i fo hfo
      cases hc
      unfold eDefer at hv
      rw [obind_eq] at hv
      obtain ⟨l, hl, hv⟩ := hv
      rw [obind_eq] at hv
      obtain ⟨fv, hfv, hv⟩ := hv
      have hlr := eosA (f := a.eval) (fun x hx => ht x (by simp [ho, Op.operands, Call.operands, hx])) hl
      have hfr := ht fo (by simp [ho, Op.operands, Call.operands, hfo]) _ hfv
      split at hv
      · rename_i f first cap
        cases hv
        simp only [VR] at hfr
        obtain ⟨A, B, hfe, h1, h2⟩ := hfr
        refine ⟨f, B, A ++ c.args.map a.eval, ?_, rfl, ?_⟩
        · simp only [execOp, ho, resolve, hfo, hfe]
          rfl
        · rw [Array.append_assoc]
          exact h1.appendA (hlr.appendA h2)
      · cases hv
    · cases hc
end
end Go.Ev


/- An operation in its region: what the evaluator goes on with is what the machine goes on with. -/
namespace Go.Ev

/-- deferred calls -/
def DR (ρ : Ro) : List ADef → List Deferred → Prop
  | [], l => l = []
  | .collected id :: ds, l => ∃ l' p, l = { target := .collected p.r, args := #[] } :: l' ∧ ρ id = some (some p) ∧ p.c = false ∧ DR ρ ds l'
  | .call f args :: ds, l => ∃ l' c A, l = { target := .fn (.func f) c, args := A } :: l' ∧ VRs ρ args (A ++ c).toList ∧ DR ρ ds l'
theorem DR.mono {ρ ρ' : Ro} (h : Le ρ ρ') : ∀ {ds : List ADef} {l : List Deferred}, DR ρ ds l → DR ρ' ds l
  | [], _, hd => hd
  | .collected id :: ds, _, hd => by
    obtain ⟨l', p, rfl, h1, h2, h3⟩ := hd
    exact ⟨l', p, rfl, h.stays h1 h2, h2, DR.mono h h3⟩
  | .call f args :: ds, _, hd => by
    obtain ⟨l', c, A, rfl, h1, h2⟩ := hd
    exact ⟨l', c, A, rfl, VRs.mono h _ _ h1, DR.mono h h2⟩

section
variable {P : Program} {xt : FuncId → Option XK} {F : Fence} {n : Nat} {Q : Exit → Act → World → Prop}

structure Inv (P : Program) (ρ : Ro) (st : St) (f : Fr) (nt : Nat) (a : Act) (w : World) : Prop where
  rh : RH P ρ st w.heap
  gl : Gl P ρ st
  tr : TR ρ f.e a.tmps
  size : a.tmps.size = nt
  dr : DR ρ f.d a.defers

theorem TR.put {ρ : Ro} {e : Env} {a : Act} {nt : Nat} (h : TR ρ e a.tmps) (hs : a.tmps.size = nt) {dst : Option Tmp} (hd : ∀ d, dst = some d → d < nt) {v : V} {X : Value} (hv : VR ρ v X) : TR ρ (putE e dst v) (a.put dst X).tmps := by
  cases dst with
  | none => exact h
  | some d =>
    have hlt := hd d rfl
    intro i u hu
    simp only [Act.put]
    rw [show putE e (some d) v = e.set d v from rfl, Tr.get_set] at hu
    split at hu
    · rename_i hi
      subst hi
      cases hu
      have hlt' : d < a.tmps.size := by rw [hs]; exact hlt
      exact ⟨X, by rw [Array.getElem?_setIfInBounds_self, if_pos hlt'], hv⟩
    · rename_i hi
      obtain ⟨x, hx, hr⟩ := h i u hu
      exact ⟨x, by rw [Array.getElem?_setIfInBounds_ne hi]; exact hx, hr⟩
theorem put_size (a : Act) (dst : Option Tmp) (X : Value) : (a.put dst X).tmps.size = a.tmps.size := by cases dst <;> simp [Act.put]
theorem put_defers (a : Act) (dst : Option Tmp) (X : Value) : (a.put dst X).defers = a.defers := by cases dst <;> rfl

/-- on, with a value put -/
theorem Inv.next {ρ ρ' : Ro} {st st' : St} {f : Fr} {nt : Nat} {a : Act} {w w' : World} (h : Inv P ρ st f nt a w) (hr : RH P ρ' st' w'.heap) (he : Ext ρ st w ρ' st' w') {dst : Option Tmp} (hd : ∀ d, dst = some d → d < nt) {v : V} {X : Value} (hv : VR ρ' v X) :
    Inv P ρ' st' (f.put dst v) nt (a.put dst X) w' where
  rh := hr
  gl := h.gl.ext he
  tr := (h.tr.mono he.le).put h.size hd hv
  size := by rw [put_size]; exact h.size
  dr := by rw [put_defers]; exact h.dr.mono he.le

/-- what the evaluator's own calls are worth -/
def RetOk (P : Program) (ρ : Ro) (st : St) (w : World) (v : V) (st' : St) (e : Ending) (w' : World) : Prop :=
  ∃ X ρ', e = .returned X ∧ VR ρ' v X ∧ RH P ρ' st' w'.heap ∧ Ext ρ st w ρ' st' w'
structure SelfOk (P : Program) (sf : Self) : Prop where
  fn : ∀ f args st v st', sf (.fn f) args st = some (v, st') → ∀ (ρ : Ro) (A : Array Value) (w : World) (n : Nat), RH P ρ st w.heap → Gl P ρ st → VRs ρ args A.toList → CallsIn Fence.wide n P f A w (RetOk P ρ st w v st')
  dfn : ∀ f args st v st', sf (.dfn f) args st = some (v, st') → ∀ (ρ : Ro) (A : Array Value) (w : World) (n : Nat) (u : FrameMode), RH P ρ st w.heap → Gl P ρ st → VRs ρ args A.toList → CallsDIn Fence.wide n P f A u w fun e u' w' => u' = u ∧ RetOk P ρ st w v st' e w'
  round : ∀ id args st v st', sf (.round id) args st = some (v, st') → ∀ (ρ : Ro) (A : Array Value) (w : World) (l : Nat) (n : Nat), RH P ρ st w.heap → Gl P ρ st → VR ρ (.yield id) (.func (.yield l) #[] #[]) → VRs ρ args A.toList →
    ∃ fn tmps assign body, (Instr.yield l A).run P w = .ok (.round l fn tmps assign body) w ∧ RoundIn Fence.wide n P l fn tmps assign body w (RetOk P ρ st w v st')

/-- the fences that are met -/
def FOk (F : Fence) : Prop := F = Fence.wide ∨ ∃ l, F = Fence.wide.inRound l
theorem FOk.fn (h : FOk F) (f : FuncId) : F.fn f := by rcases h with rfl | ⟨l, rfl⟩ <;> trivial
theorem FOk.depth (h : FOk F) : F.depth.isSome = true → 1 ≤ n := by rcases h with rfl | ⟨l, rfl⟩ <;> intro h <;> cases h
theorem FOk.calls (h : FOk F) {f : FuncId} {A : Array Value} {w : World} {R : Ending → World → Prop} (k : CallsIn Fence.wide n P f A w R) : CallsIn F n P f A w R := by
  rcases h with rfl | ⟨l, rfl⟩
  · exact k
  · exact k
theorem FOk.rounds (h : FOk F) {l : Nat} {f : FuncId} {tmps : Array Value} {x y : Code} {w : World} {R : Ending → World → Prop} (k : RoundIn Fence.wide n P l f tmps x y w R) : RoundIn F n P l f tmps x y w R := by
  rcases h with rfl | ⟨l, rfl⟩
  · exact k
  · exact k

theorem semAt_exec {a : Act} {o : Oper} (h : F.round = none ∨ ∀ c, o.op ≠ .defer c) : o.semAt F.round a.eval = execOp a.eval o := by
  rcases h with h | h
  · rw [h]; rfl
  · exact Oper.semAt_eq _ _ _ h

theorem onV_eq {dst : Option Tmp} {f f' : Fr} {st st' : St} {k : Kt} {v : Option V} {x : Ex} (h : onV dst f st k v = .out x f' st') : ∃ u, v = some u ∧ k (f.put dst u) st = .out x f' st' := by
  cases v with
  | none => cases h
  | some u => exact ⟨u, rfl, h⟩
theorem onA_eq {dst : Option Tmp} {f f' : Fr} {st st' : St} {k : Kt} {v : Option (B × (Nat → V))} {x : Ex} (h : onA dst f st k v = .out x f' st') : ∃ q, v = some q ∧ k (f.put dst (q.2 st.next)) (st.new q.1) = .out x f' st' := by
  cases v with
  | none => cases h
  | some u => exact ⟨u, rfl, h⟩
theorem goOn_eq {dst : Option Tmp} {f f' : Fr} {st' : St} {k : Kt} {r : Res} {x : Ex} (h : goOn k dst f r = .out x f' st') : ∃ v st1, r = some (v, st1) ∧ k (f.put dst v) st1 = .out x f' st' := by
  cases r with
  | none => cases h
  | some u => exact ⟨u.1, u.2, rfl, h⟩

/-- what a machine goes on with, once an operation is done -/
def Goes (P : Program) (ρ : Ro) (st : St) (nt : Nat) (w : World) (k : Kt) (x : Ex) (f' : Fr) (st' : St) (K : Act → World → Prop) : Prop :=
  ∀ (ρ1 : Ro) (st1 : St) (f1 : Fr) (a1 : Act) (w1 : World), k f1 st1 = .out x f' st' → Inv P ρ1 st1 f1 nt a1 w1 → Ext ρ st w ρ1 st1 w1 → K a1 w1

/-- an operation that acts, at any place: what it comes to -/
theorem uponIn_nx {self : Self} (hS : SelfOk P self) (hF : FOk F) {ρ : Ro} {st : St} {f f' : Fr} {st' : St} {a : Act} {w : World} {o : Oper} {k : Kt} {x : Ex} {K : Act → World → Prop} {nx : Nx} {r : Result Next}
    (hrh : RH P ρ st w.heap) (hgl : Gl P ρ st) (hk : onNx self o.dst f st k (some nx) = .out x f' st') (hn : NxOk P ρ st w r nx)
    (hV : ∀ (v : V) (st1 : St) (X : Value) (w1 : World) (ρ1 : Ro), k (f.put o.dst v) st1 = .out x f' st' → VR ρ1 v X → RH P ρ1 st1 w1.heap → Ext ρ st w ρ1 st1 w1 → K (a.put o.dst X) w1)
    (hD : ∀ (g : FuncId) (args : List V) (c : Array Value) (A : Array Value), k { e := putE f.e o.dst (.tup []), d := .call g args :: f.d } st = .out x f' st' → VRs ρ args (A ++ c).toList →
      K ({ a with defers := { target := .fn (.func g) c, args := A } :: a.defers }.put o.dst undef) w) : o.uponIn F n P a K Q r := by
  cases nx with
  | val v st1 =>
    obtain ⟨nx, X, w1, ρ1, rfl, hnx, hv, hr, he⟩ := hn
    have := hV v st1 X w1 ρ1 hk hv hr he
    rcases hnx with rfl | ⟨rfl, rfl⟩
    · exact this
    · exact this
  | call g args =>
    obtain ⟨A, rfl, hA⟩ := hn
    obtain ⟨v, st1, hs, hk'⟩ := goOn_eq hk
    refine ⟨hF.depth, hF.calls (CallsIn.mono (hS.fn g args st v st1 hs ρ A w (n - 1) hrh hgl hA) fun e w1 he => ?_)⟩
    obtain ⟨X, ρ1, rfl, h1, h2, h3⟩ := he
    exact hV v st1 X w1 ρ1 hk' h1 h2 h3
  | round id args =>
    obtain ⟨l, A, h1, h2, rfl⟩ := hn
    obtain ⟨v, st1, hs, hk'⟩ := goOn_eq hk
    obtain ⟨fn, tmps, assign, body, h3, h4⟩ := hS.round id args st v st1 hs ρ A w l (n - 1) hrh hgl h1 h2
    rw [h3]
    refine ⟨hF.depth, hF.rounds (RoundIn.mono h4 fun e w1 he => ?_)⟩
    obtain ⟨X, ρ1, rfl, h5, h6, h7⟩ := he
    exact hV v st1 X w1 ρ1 hk' h5 h6 h7
  | dfr g args =>
    obtain ⟨g', c, A, rfl, rfl, hA⟩ := hn
    exact hD g' args c A hk hA

theorem doCd_sound (hP : PH P xt) {self : Self} (hS : SelfOk P self) (hF : FOk F) {ρ : Ro} {st : St} {f f' : Fr} {st' : St} {nt : Nat} {a : Act} {w : World} {o : Oper} {k : Kt} {x : Ex} {K : Act → World → Prop}
    (hi : Inv P ρ st f nt a w) (hd : ∀ d, o.dst = some d → d < nt) (hdef : F.round = none ∨ ∀ c, o.op ≠ .defer c) (hk : doCd self o.dst f st k (cd P xt o.op) = .out x f' st') (hK : Goes P ρ st nt w k x f' st' K) :
    o.wpIn F n P a w K Q := by
  refine ⟨fun g _ => hF.fn g, ?_⟩
  rw [semAt_exec hdef]
  have hO := HO.of hi.gl hi.tr o
  cases hc : cd P xt o.op with
  | pure h =>
    rw [hc] at hk
    obtain ⟨v, hv, hk'⟩ := onV_eq hk
    obtain ⟨X, hX, hr⟩ := pure_sound hO hc hv
    rw [hX w]
    exact hK ρ st _ _ w hk' (hi.next hi.rh (Ext.refl _ _ _) hd hr) (Ext.refl _ _ _)
  | read h =>
    rw [hc] at hk
    obtain ⟨v, hv, hk'⟩ := onV_eq hk
    obtain ⟨X, hX, hr⟩ := read_sound hi.rh hO hc hv
    rw [hX]
    exact hK ρ st _ _ w hk' (hi.next hi.rh (Ext.refl _ _ _) hd hr) (Ext.refl _ _ _)
  | make h =>
    rw [hc] at hk
    obtain ⟨q, hv, hk'⟩ := onA_eq hk
    obtain ⟨obj, X, m, c, hX, hb⟩ := make_sound hO hc hv
    rw [hX w]
    obtain ⟨hb1, hb2⟩ := hb st.next w.heap.size (hi.rh.none_of_ge (Nat.le_refl _))
    have he := Ext.fresh hi.rh (n := m) (c := c) q.1 obj
    exact hK _ _ _ _ _ hk' (hi.next (hi.rh.fresh hb1) he hd hb2) he
  | act h =>
    rw [hc] at hk
    cases hv : h f.e st with
    | none => rw [show doCd self o.dst f st k (.act h) = onNx self o.dst f st k (h f.e st) from rfl, hv] at hk; cases hk
    | some nx =>
      rw [show doCd self o.dst f st k (.act h) = onNx self o.dst f st k (h f.e st) from rfl, hv] at hk
      refine uponIn_nx hS hF hi.rh hi.gl hk (act_sound hP hi.rh hO hc hv) (fun v st1 X w1 ρ1 hk' h1 h2 h3 => hK _ _ _ _ _ hk' (hi.next h2 h3 hd h1) h3) fun g args c A hk' hA => ?_
      refine hK ρ st _ _ w hk' ?_ (Ext.refl _ _ _)
      have := hi.next hi.rh (Ext.refl ρ st w) hd (VR.unit (ρ := ρ))
      refine ⟨this.rh, this.gl, ?_, ?_, ?_⟩
      · have e : ∀ dst : Option Tmp, (({ a with defers := { target := .fn (.func g) c, args := A } :: a.defers } : Act).put dst undef).tmps = (a.put dst undef).tmps := fun dst => by cases dst <;> rfl
        rw [e]
        exact this.tr
      · rw [put_size]; exact hi.size
      · rw [put_defers]; exact ⟨_, c, A, rfl, hA, hi.dr⟩
  | no => rw [hc] at hk; cases hk
end
end Go.Ev


/- Guards; regions in their order. -/
namespace Go.Ev
section
variable {P : Program} {xt : FuncId → Option XK} {F : Fence} {n : Nat} {Q : Exit → Act → World → Prop}

theorem Goes.on {ρ ρ1 : Ro} {st st1 : St} {nt : Nat} {w w1 : World} {k : Kt} {x : Ex} {f' : Fr} {st' : St} {K : Act → World → Prop} (h : Goes P ρ st nt w k x f' st' K) (he : Ext ρ st w ρ1 st1 w1) : Goes P ρ1 st1 nt w1 k x f' st' K :=
  fun ρ2 st2 f2 a2 w2 hk hi he2 => h ρ2 st2 f2 a2 w2 hk hi (he.trans he2)

/-- a guard: what the evaluator sees, and what the machine sees -/
theorem wanted_at {ops : Array Oper} {o : Oper} {t : Nat} {want : Bool} {tmps : Array Value} {v : V} {X : Value} {ρ : Ro} (hg : gdOf ops.toList o = .at t want) (hx : tmps[t]? = some X) (hv : VR ρ v X) :
    Region.wanted o (yielded ops tmps) = isB want v := by
  unfold gdOf at hg
  split at hg
  · cases hg
  · rename_i g hog
    split at hg
    · rename_i p hp
      split at hg
      · rename_i d hd
        cases hg
        rw [nth_eq, Array.getElem?_toList] at hp
        obtain ⟨j, want⟩ := g
        simp only at hp
        simp only [Region.wanted, hog, yielded, hp, Option.bind_some, hd]
        rw [hx]
        cases v <;> simp only [VR] at hv
        case bool b => subst hv; cases b <;> cases want <;> rfl
        case int => subst hv; rfl
        case str => obtain ⟨_, rfl⟩ := hv; rfl
        case ptr => rcases hv with ⟨_, _, rfl⟩ | ⟨_, _, rfl⟩ <;> rfl
        case nilp => subst hv; rfl
        case slice => obtain ⟨_, _, rfl, _⟩ := hv; rfl
        case nils => subst hv; rfl
        case map => rcases hv with ⟨_, _, rfl⟩ | ⟨_, _, rfl⟩ <;> rfl
        case nilm => subst hv; rfl
        case func => obtain ⟨_, _, rfl, _⟩ := hv; rfl
        case yield => rcases hv with ⟨_, _, rfl⟩ | ⟨_, _, rfl⟩ <;> rfl
        case nilf => subst hv; rfl
        case iface => obtain ⟨_, rfl, _⟩ := hv; rfl
        case nili => subst hv; rfl
        case agg => obtain ⟨_, rfl, _⟩ := hv; rfl
        case tup => obtain ⟨_, rfl, _⟩ := hv; rfl
      · cases hg
    · cases hg
theorem wanted_free {ops : Array Oper} {o : Oper} {tmps : Array Value} (hg : gdOf ops.toList o = .free) : Region.wanted o (yielded ops tmps) = true := by
  unfold gdOf at hg
  split at hg
  · rename_i hog; simp [Region.wanted, hog]
  · split at hg
    · split at hg <;> cases hg
    · cases hg

theorem doIt_sound (hP : PH P xt) {self : Self} (hS : SelfOk P self) (hF : FOk F) {ρ : Ro} {st : St} {f f' : Fr} {st' : St} {nt : Nat} {a : Act} {w : World} {ops : Array Oper} {i : Nat} {o : Oper} {k : Kt} {x : Ex} {K : Act → World → Prop}
    (ho : ops[i]? = some o) (hi : Inv P ρ st f nt a w) (hd : ∀ d, o.dst = some d → d < nt) (hdef : F.round = none ∨ ∀ c, o.op ≠ .defer c) (hk : doIt self (itOf P xt ops.toList o) f st k = .out x f' st') (hK : Goes P ρ st nt w k x f' st' K) :
    wpOpIn F n P ops Q i K a w := by
  unfold wpOpIn
  simp only [ho]
  rw [show doIt self (itOf P xt ops.toList o) f st k = (match gdOf ops.toList o with
    | .free => doCd self o.dst f st k (cd P xt o.op)
    | .at t want => (match look t f.e with
      | none => .no
      | some v => sel (isB want v) (doCd self o.dst f st k (cd P xt o.op)) (k (f.put o.dst (.tup [])) st))
    | .no => .no) from rfl] at hk
  split at hk
  · rename_i hg
    rw [if_pos (wanted_free hg)]
    exact doCd_sound hP hS hF hi hd hdef hk hK
  · rename_i t want hg
    split at hk
    · cases hk
    · rename_i v hv
      obtain ⟨X, hX, hXr⟩ := hi.tr t v hv
      rw [wanted_at hg hX hXr]
      rw [sel_eq] at hk
      split at hk
      · rename_i hb
        rw [if_pos hb]
        exact doCd_sound hP hS hF hi hd hdef hk hK
      · rename_i hb
        rw [if_neg hb]
        exact ⟨fun g _ => hF.fn g, hK ρ st _ _ w hk (hi.next hi.rh (Ext.refl _ _ _) hd VR.unit) (Ext.refl _ _ _)⟩
  · cases hk

theorem doIts_sound (hP : PH P xt) {self : Self} (hS : SelfOk P self) (hF : FOk F) {f' : Fr} {st' : St} {nt : Nat} {ops : Array Oper} {x : Ex} {k : Kt} (hd : ∀ o ∈ ops, ∀ d, o.dst = some d → d < nt) (hdef : F.round = none ∨ ∀ o ∈ ops, ∀ c, o.op ≠ .defer c) :
    ∀ (rest pre : List Oper), ops.toList = pre ++ rest → ∀ {ρ : Ro} {st : St} {f : Fr} {a : Act} {w : World}, Inv P ρ st f nt a w → doIts self (itsOf P xt ops.toList rest) f st k = .out x f' st' → Goes P ρ st nt w k x f' st' (Q .normal) →
      wpOpsIn F n P ops Q (List.range' pre.length rest.length) a w
  | [], pre, he, ρ, st, f, a, w, hi, hk, hK => hK ρ st f a w hk hi (Ext.refl _ _ _)
  | o :: rest, pre, he, ρ, st, f, a, w, hi, hk, hK => by
    have ho : ops[pre.length]? = some o := by
      rw [← Array.getElem?_toList, he]
      simp
    have hmem : o ∈ ops := Array.mem_of_getElem? ho
    rw [List.length_cons, List.range'_succ, wpOpsIn_cons]
    refine doIt_sound hP hS hF ho hi (hd o hmem) (hdef.imp id fun h => h o hmem) (k := fun f st => doIts self (itsOf P xt ops.toList rest) f st k) hk ?_
    intro ρ1 st1 f1 a1 w1 hk1 hi1 he1
    have := doIts_sound hP hS hF hd hdef rest (pre ++ [o]) (by rw [he]; simp) hi1 hk1 (hK.on he1)
    simpa using this

theorem dstsOk_eq {m : Nat} : ∀ {l : List Oper}, dstsOk m l = true → ∀ o ∈ l, ∀ d, o.dst = some d → d < m
  | [], _, o, ho, _, _ => by cases ho
  | p :: l, h, o, ho, d, hd => by
    rw [show dstsOk m (p :: l) = match p.dst with | some d => sel (Nat.blt d m) (dstsOk m l) false | none => dstsOk m l from rfl] at h
    rcases List.mem_cons.1 ho with rfl | ho
    · rw [hd] at h
      simp only at h
      rw [sel_eq] at h
      split at h
      · rename_i hb; simpa [Nat.blt_eq] using hb
      · cases h
    · split at h
      · rw [sel_eq] at h
        split at h
        · exact dstsOk_eq h o ho d hd
        · cases h
      · exact dstsOk_eq h o ho d hd
theorem hasDefer_eq : ∀ {l : List Oper}, hasDefer l = false → ∀ o ∈ l, ∀ c, o.op ≠ .defer c
  | [], _, o, ho, _ => by cases ho
  | p :: l, h, o, ho, c => by
    rw [show hasDefer (p :: l) = sel (isDefer p.op) true (hasDefer l) from rfl, sel_eq] at h
    split at h
    · cases h
    · rename_i hb
      rcases List.mem_cons.1 ho with rfl | ho
      · intro hc
        rw [hc] at hb
        exact hb rfl
      · exact hasDefer_eq h o ho c
end
end Go.Ev


/- The order in which a region that draws is reckoned. -/
namespace Go.Ev
section
variable {P : Program} {xt : FuncId → Option XK}

theorem bit_eq (m i : Nat) : bit m i = m.testBit i := by
  unfold bit
  rw [Nat.testBit_eq_decide_div_mod_eq, Bool.eq_iff_iff]
  simp only [Nat.beq_eq, decide_eq_true_eq]
  rw [show m.shiftRight i = m / 2 ^ i from Nat.shiftRight_eq_div_pow m i]
  exact Iff.rfl

theorem maskOf_bit {ms : List Nat} {j : Nat} : ∀ {l : List Edge}, bit (maskOf ms l) j = true → ∃ e ∈ l, Region.binds .any e = true ∧ (j = e.on ∨ ∃ m, ms[e.on]? = some m ∧ bit m j = true)
  | [], h => by rw [bit_eq, show maskOf ms [] = 0 from rfl, Nat.zero_testBit] at h; cases h
  | e :: l, h => by
    rw [show maskOf ms (e :: l) = sel (Region.binds .any e) (Nat.lor (Nat.lor (Nat.shiftLeft 1 e.on) (match nth e.on ms with | some m => m | none => 0)) (maskOf ms l)) (maskOf ms l) from rfl, sel_eq] at h
    split at h
    · rename_i hb
      rw [bit_eq] at h
      have h' : ((1 <<< e.on ||| (match nth e.on ms with | some m => m | none => 0)) ||| maskOf ms l).testBit j = true := h
      rw [Nat.testBit_or, Nat.testBit_or, Bool.or_eq_true, Bool.or_eq_true] at h'
      rcases h' with (h1 | h1) | h1
      · refine ⟨e, by simp, hb, .inl ?_⟩
        rw [Nat.testBit_shiftLeft] at h1
        simp only [Bool.and_eq_true, decide_eq_true_eq] at h1
        have := h1.2
        have : j - e.on = 0 := Nat.testBit_one_eq_true_iff_self_eq_zero.1 this
        omega
      · refine ⟨e, by simp, hb, .inr ?_⟩
        split at h1
        · rename_i m hm
          rw [nth_eq] at hm
          exact ⟨m, hm, by rw [bit_eq]; exact h1⟩
        · rw [Nat.zero_testBit] at h1; cases h1
      · obtain ⟨e', he, h2⟩ := maskOf_bit (l := l) (by rw [bit_eq]; exact h1)
        exact ⟨e', by simp [he], h2⟩
    · obtain ⟨e', he, h2⟩ := maskOf_bit h
      exact ⟨e', by simp [he], h2⟩

theorem masksOf_cons (o : Oper) (l : List Oper) (ms : List Nat) : masksOf (o :: l) ms = masksOf l (ms ++ [maskOf ms o.after.toList]) := rfl
theorem masksOf_pre : ∀ (l : List Oper) (ms : List Nat), ∃ r, masksOf l ms = ms ++ r ∧ r.length = l.length
  | [], ms => ⟨[], by rw [List.append_nil]; rfl, rfl⟩
  | o :: l, ms => by
    obtain ⟨r, h1, h2⟩ := masksOf_pre l (ms ++ [maskOf ms o.after.toList])
    exact ⟨maskOf ms o.after.toList :: r, by rw [masksOf_cons, h1]; simp, by simp [h2]⟩
theorem masksOf_at : ∀ (l : List Oper) (ms : List Nat) (k : Nat) (o : Oper), l[k]? = some o → (masksOf l ms)[ms.length + k]? = some (maskOf ((masksOf l ms).take (ms.length + k)) o.after.toList)
  | [], ms, k, o, h => by simp at h
  | p :: l, ms, k, o, h => by
    rw [masksOf_cons]
    cases k with
    | zero =>
      simp at h
      subst h
      obtain ⟨r, h1, _⟩ := masksOf_pre l (ms ++ [maskOf ms p.after.toList])
      rw [h1]
      simp
    | succ k =>
      have := masksOf_at l (ms ++ [maskOf ms p.after.toList]) k o (by simpa using h)
      simp only [List.length_append, List.length_singleton] at this
      rw [show ms.length + (k + 1) = ms.length + 1 + k by omega]
      exact this

/-- a set of operations that holds with each what surely comes ahead of it -/
def Down (ops : List Oper) (L : Nat → Prop) : Prop := ∀ j o, ops[j]? = some o → L j → ∀ e ∈ o.after, Region.binds .any e = true → L e.on

theorem mask_down {ops : List Oper} {L : Nat → Prop} (hL : Down ops L) : ∀ (i : Nat) (o : Oper) (m : Nat), ops[i]? = some o → (masksOf ops [])[i]? = some m → (∀ e ∈ o.after, Region.binds .any e = true → L e.on) → ∀ j, bit m j = true → L j := by
  intro i
  induction i using Nat.strongRecOn with
  | _ i ih =>
    intro o m ho hm he j hj
    have := masksOf_at ops [] i o ho
    simp only [List.length_nil, Nat.zero_add] at this
    rw [hm] at this
    cases this
    obtain ⟨e, hem, hb, h1⟩ := maskOf_bit hj
    have hLe := he e (by simpa using hem) hb
    rcases h1 with rfl | ⟨m', hm', hj'⟩
    · exact hLe
    · rw [List.getElem?_take] at hm'
      split at hm'
      · rename_i hlt
        obtain ⟨r, h2, h3⟩ := masksOf_pre ops []
        rw [List.nil_append] at h2
        have hlt' : e.on < ops.length := by
          have := (List.getElem?_eq_some_iff.1 hm').1
          rw [h2, h3] at this
          exact this
        exact ih e.on hlt ops[e.on] m' (List.getElem?_eq_getElem hlt') hm' (fun e' he' hb' => hL e.on _ (List.getElem?_eq_getElem hlt') hLe e' he' hb') j hj'
      · cases hm'

/-! ### the list -/
theorem numbered_at {ops : List Oper} : ∀ {l : List Oper} {i : Nat} {ms : List Nat} {k : Nat} {d : Dt}, (numbered P xt ops l i ms)[k]? = some d →
    ∃ o m, l[k]? = some o ∧ ms[k]? = some m ∧ d = { i := i + k, m := m, act := isAct (cd P xt o.op), it := itOf P xt ops o }
  | [], i, ms, k, d, h => by rw [show numbered P xt ops [] i ms = [] from rfl] at h; simp at h
  | o :: l, i, [], k, d, h => by rw [show numbered P xt ops (o :: l) i [] = [] from rfl] at h; simp at h
  | o :: l, i, m :: ms, k, d, h => by
    rw [show numbered P xt ops (o :: l) i (m :: ms) = { i := i, m := m, act := isAct (cd P xt o.op), it := itOf P xt ops o } :: numbered P xt ops l (i + 1) ms from rfl] at h
    cases k with
    | zero => simp at h; subst h; exact ⟨o, m, rfl, rfl, rfl⟩
    | succ k =>
      obtain ⟨o', m', h1, h2, h3⟩ := numbered_at (by simpa using h)
      exact ⟨o', m', by simpa using h1, by simpa using h2, by rw [h3]; congr 1; omega⟩

theorem waits_eq {d : Dt} : ∀ {l : List Dt}, waits d l = true → ∃ x ∈ l, bit d.m x.i = true
  | [], h => by cases h
  | x :: l, h => by
    rw [show waits d (x :: l) = sel (bit d.m x.i) true (waits d l) from rfl, sel_eq] at h
    split at h
    · rename_i hb; exact ⟨x, by simp, hb⟩
    · obtain ⟨y, hy, hb⟩ := waits_eq h; exact ⟨y, by simp [hy], hb⟩
theorem pickQ_cons (all : List Dt) (d : Dt) (r : List Dt) : pickQ all (d :: r) = sel (sel d.act true (waits d all)) (match pickQ all r with | none => none | some p => some (p.1, d :: p.2)) (some (d, r)) := rfl
theorem pickQ_some {all : List Dt} : ∀ {l : List Dt} {p : Dt × List Dt}, pickQ all l = some p → l.Perm (p.1 :: p.2) ∧ p.1.act = false
  | [], p, h => by cases h
  | d :: r, p, h => by
    rw [pickQ_cons, sel_eq] at h
    split at h
    · split at h
      · cases h
      · rename_i q hq
        cases h
        obtain ⟨h1, h2⟩ := pickQ_some hq
        exact ⟨(h1.cons d).trans (List.Perm.swap _ _ _), h2⟩
    · rename_i hs
      cases h
      refine ⟨List.Perm.refl _, ?_⟩
      cases hact : d.act with
      | false => rfl
      | true => rw [hact] at hs; exact absurd rfl hs
theorem pickQ_none {all : List Dt} : ∀ {l : List Dt}, pickQ all l = none → ∀ d ∈ l, d.act = false → waits d all = true
  | [], _, d, hd, _ => by cases hd
  | x :: r, h, d, hd, hq => by
    rw [pickQ_cons, sel_eq] at h
    split at h
    · rename_i hs
      split at h
      · rename_i hn
        rcases List.mem_cons.1 hd with rfl | hd
        · rw [hq, sel_false] at hs; exact hs
        · exact pickQ_none hn d hd hq
      · cases h
    · cases h
theorem pickA_cons (d : Dt) (r : List Dt) : pickA (d :: r) = sel d.act (some (d, r)) (match pickA r with | none => none | some p => some (p.1, d :: p.2)) := rfl
theorem pickA_some : ∀ {l : List Dt} {p : Dt × List Dt}, pickA l = some p → l.Perm (p.1 :: p.2) ∧ p.1.act = true
  | [], p, h => by cases h
  | d :: r, p, h => by
    rw [pickA_cons, sel_eq] at h
    split at h
    · rename_i hb; cases h; exact ⟨List.Perm.refl _, hb⟩
    · split at h
      · cases h
      · rename_i q hq
        cases h
        obtain ⟨h1, h2⟩ := pickA_some hq
        exact ⟨(h1.cons d).trans (List.Perm.swap _ _ _), h2⟩
theorem orderOf_succ (n : Nat) (l : List Dt) : orderOf (n + 1) l = match pickQ l l with
    | some p => p.1 :: orderOf n p.2
    | none => (match pickA l with | some p => p.1 :: orderOf n p.2 | none => []) := rfl
theorem orderOf_perm : ∀ {n : Nat} {l : List Dt}, (orderOf n l).length = l.length → l.Perm (orderOf n l)
  | 0, l, h => by
    rw [show orderOf 0 l = [] from rfl] at h ⊢
    rw [List.eq_nil_of_length_eq_zero h.symm]
  | n + 1, l, h => by
    rw [orderOf_succ] at h ⊢
    split at h
    · rename_i p hp
      obtain ⟨h1, _⟩ := pickQ_some hp
      have h2 := h1.length_eq
      simp only [List.length_cons] at h h2
      exact h1.trans ((orderOf_perm (by omega)).cons _)
    · split at h
      · rename_i p hp
        obtain ⟨h1, _⟩ := pickA_some hp
        have h2 := h1.length_eq
        simp only [List.length_cons] at h h2
        exact h1.trans ((orderOf_perm (by omega)).cons _)
      · rw [List.eq_nil_of_length_eq_zero h.symm]
/-- behind an act that comes next, each that does not act waits for one that is not done -/
theorem orderOf_greedy : ∀ {n : Nat} {l : List Dt}, (orderOf n l).length = l.length → ∀ (pre post : List Dt) (d : Dt), orderOf n l = pre ++ d :: post → d.act = true → ∀ z ∈ post, z.act = false → ∃ x ∈ d :: post, bit z.m x.i = true
  | 0, l, h, pre, post, d, he, _, z, hz, _ => by
    rw [show orderOf 0 l = [] from rfl] at he
    cases pre <;> cases he
  | n + 1, l, h, pre, post, d, he, hact, z, hz, hq => by
    rw [orderOf_succ] at h he
    split at h
    · rename_i p hp
      obtain ⟨h1, h3⟩ := pickQ_some hp
      have h2 := h1.length_eq
      simp only [List.length_cons] at h h2
      rw [hp] at he
      cases pre with
      | nil => simp only [List.nil_append, List.cons.injEq] at he; rw [he.1, hact] at h3; cases h3
      | cons y pre =>
        simp only [List.cons_append, List.cons.injEq] at he
        exact orderOf_greedy (by omega) pre post d he.2 hact z hz hq
    · rename_i hn
      rw [hn] at he
      split at h
      · rename_i p hp
        obtain ⟨h1, h3⟩ := pickA_some hp
        have h2 := h1.length_eq
        simp only [List.length_cons] at h h2
        rw [hp] at he
        have hperm := orderOf_perm (n := n) (l := p.2) (by omega)
        cases pre with
        | nil =>
          simp only [List.nil_append, List.cons.injEq] at he
          obtain ⟨rfl, rfl⟩ := he
          have hzl : z ∈ l := h1.mem_iff.2 (List.mem_cons_of_mem _ (hperm.mem_iff.2 hz))
          obtain ⟨x, hx, hb⟩ := waits_eq (pickQ_none hn z hzl hq)
          refine ⟨x, ?_, hb⟩
          rcases List.mem_cons.1 (h1.mem_iff.1 hx) with rfl | hx'
          · simp
          · exact List.mem_cons_of_mem _ (hperm.mem_iff.1 hx')
        | cons y pre =>
          simp only [List.cons_append, List.cons.injEq] at he
          exact orderOf_greedy (by omega) pre post d he.2 hact z hz hq
      · rename_i hp
        rw [hp] at he
        cases pre <;> cases he
end
end Go.Ev


/- A region that draws: the plan; what is known on the way. -/
namespace Go.Ev
section
variable {P : Program} {xt : FuncId → Option XK} {F : Fence} {n : Nat} {Q : Exit → Act → World → Prop}

theorem hasN_iff {t : Nat} : ∀ {l : List Nat}, hasN t l = true ↔ t ∈ l
  | [] => by simp [hasN]
  | u :: l => by
    rw [show hasN t (u :: l) = sel (Nat.beq u t) true (hasN t l) from rfl, sel_eq]
    split
    · rename_i h; simp [Nat.eq_of_beq_eq_true h]
    · rename_i h
      rw [hasN_iff]
      simp only [List.mem_cons]
      constructor
      · exact .inr
      · rintro (rfl | h')
        · simp at h
        · exact h'
theorem tmpsOf_mem {t : Tmp} : ∀ {l : List Operand}, Operand.tmp t ∈ l → t ∈ tmpsOf l
  | [], h => by cases h
  | o :: l, h => by
    rcases List.mem_cons.1 h with rfl | h
    · show t ∈ t :: tmpsOf l
      simp
    · have := tmpsOf_mem h
      cases o <;> first | exact this | (show t ∈ _ :: tmpsOf l; simp [this])
theorem readsOf_op {ops : List Oper} {o : Oper} {t : Tmp} (h : Operand.tmp t ∈ o.op.operands.toList) : t ∈ readsOf ops o := by
  unfold readsOf
  split
  · exact List.mem_cons_of_mem _ (tmpsOf_mem h)
  · exact tmpsOf_mem h
theorem readsOf_gd {ops : List Oper} {o : Oper} {t : Nat} {want : Bool} (h : gdOf ops o = .at t want) : t ∈ readsOf ops o := by
  unfold readsOf
  rw [h]
  simp

/-- the plan -/
structure Plan (P : Program) (xt : FuncId → Option XK) (ops : Array Oper) (l : List Dt) : Prop where
  it : ∀ (p : Nat) d, l[p]? = some d → ∃ o, ops[d.i]? = some o ∧ d.act = isAct (cd P xt o.op) ∧ d.it = itOf P xt ops.toList o ∧ (masksOf ops.toList [])[d.i]? = some d.m
  inj : ∀ (p q : Nat) d d', l[p]? = some d → l[q]? = some d' → d.i = d'.i → p = q
  all : ∀ i, i < ops.size → ∃ (p : Nat) (d : Dt), l[p]? = some d ∧ d.i = i
  edge : ∀ (i : Nat) o, ops[i]? = some o → ∀ e ∈ o.after, Region.binds .any e = true → e.on < i
  pair : ∀ (p q : Nat) d d', p < q → l[p]? = some d → l[q]? = some d' → pairOk ops.toList d d' = true
  greedy : ∀ (p q : Nat) d z, p < q → l[p]? = some d → l[q]? = some z → d.act = true → z.act = false → ∃ (r : Nat) (x : Dt), p ≤ r ∧ l[r]? = some x ∧ bit z.m x.i = true

theorem all2_eq {f : Dt → Dt → Bool} : ∀ {l : List Dt}, all2 f l = true → ∀ (p q : Nat) d d', p < q → l[p]? = some d → l[q]? = some d' → f d d' = true
  | [], _, p, q, d, d', _, h, _ => by simp at h
  | a :: l, h, p, q, d, d', hpq, hp, hq => by
    have h' : sel (List.rec true (fun b _ ih2 => sel (f a b) ih2 false) l) (all2 f l) false = true := h
    rw [sel_eq] at h'
    split at h'
    · rename_i h1
      cases q with
      | zero => omega
      | succ q =>
        cases p with
        | zero =>
          simp at hp
          subst hp
          have hm : d' ∈ l := List.mem_of_getElem? (by simpa using hq)
          have : ∀ {l : List Dt}, (List.rec (motive := fun _ => Bool) true (fun b _ ih2 => sel (f a b) ih2 false) l) = true → ∀ b ∈ l, f a b = true := by
            intro l
            induction l with
            | nil => intro _ b hb; cases hb
            | cons c l ih =>
              intro hc b hb
              have hc' : sel (f a c) (List.rec (motive := fun _ => Bool) true (fun b _ ih2 => sel (f a b) ih2 false) l) false = true := hc
              rw [sel_eq] at hc'
              split at hc'
              · rename_i h2
                rcases List.mem_cons.1 hb with rfl | hb
                · exact h2
                · exact ih hc' b hb
              · cases hc'
          exact this h1 d' hm
        | succ p => exact all2_eq h' p q d d' (by omega) (by simpa using hp) (by simpa using hq)
    · cases h'

theorem edgesOk_eq : ∀ {l : List Oper} {i : Nat}, edgesOk l i = true → ∀ (k : Nat) o, l[k]? = some o → ∀ e ∈ o.after, Region.binds .any e = true → e.on < i + k
  | [], i, _, k, o, h, _, _, _ => by simp at h
  | p :: l, i, h, k, o, hk, e, he, hb => by
    have h' : sel (List.rec true (fun e _ ih2 => sel (Region.binds .any e) (sel (Nat.blt e.on i) ih2 false) ih2) p.after.toList) (edgesOk l (i + 1)) false = true := h
    rw [sel_eq] at h'
    split at h'
    · rename_i h1
      cases k with
      | zero =>
        simp at hk
        subst hk
        have : ∀ {l : List Edge}, (List.rec (motive := fun _ => Bool) true (fun e _ ih2 => sel (Region.binds .any e) (sel (Nat.blt e.on i) ih2 false) ih2) l) = true → ∀ e ∈ l, Region.binds .any e = true → e.on < i := by
          intro l
          induction l with
          | nil => intro _ b hb; cases hb
          | cons c l ih =>
            intro hc b hb' hbb
            have hc' : sel (Region.binds .any c) (sel (Nat.blt c.on i) (List.rec (motive := fun _ => Bool) true (fun e _ ih2 => sel (Region.binds .any e) (sel (Nat.blt e.on i) ih2 false) ih2) l) false) (List.rec (motive := fun _ => Bool) true (fun e _ ih2 => sel (Region.binds .any e) (sel (Nat.blt e.on i) ih2 false) ih2) l) = true := hc
            rw [sel_eq] at hc'
            split at hc'
            · rw [sel_eq] at hc'
              split at hc'
              · rename_i h3
                rcases List.mem_cons.1 hb' with rfl | hb'
                · simpa [Nat.blt_eq] using h3
                · exact ih hc' b hb' hbb
              · cases hc'
            · rename_i h2
              rcases List.mem_cons.1 hb' with rfl | hb'
              · exact absurd hbb h2
              · exact ih hc' b hb' hbb
        exact this h1 e (by simpa using he) hb
      | succ k =>
        have := edgesOk_eq h' k o (by simpa using hk) e he hb
        omega
    · cases h'

theorem numbered_len {ops : List Oper} : ∀ {l : List Oper} {i : Nat} {ms : List Nat}, l.length ≤ ms.length → (numbered P xt ops l i ms).length = l.length
  | [], i, ms, _ => rfl
  | o :: l, i, [], h => by simp at h
  | o :: l, i, m :: ms, h => by
    show (_ :: numbered P xt ops l (i + 1) ms).length = _
    rw [List.length_cons, List.length_cons, numbered_len (by simpa using h)]

theorem plan_eq {ops : Array Oper} {l : List Dt} (h : plan P xt ops.toList = some l) : Plan P xt ops l := by
  unfold plan at h
  obtain ⟨h1, h⟩ := ok_eq.1 h
  obtain ⟨h2, h⟩ := ok_eq.1 h
  obtain ⟨h3, h⟩ := ok_eq.1 h
  obtain ⟨h4, h⟩ := ok_eq.1 h
  have hl := Option.some.inj h
  clear h
  have h2 := Nat.eq_of_beq_eq_true h2
  have h3 := Nat.eq_of_beq_eq_true h3
  simp only [len_eq] at h2 h3
  generalize hds : numbered P xt ops.toList ops.toList 0 (masksOf ops.toList []) = ds at *
  have hperm : ds.Perm l := by rw [← hl]; exact orderOf_perm (by rw [len_eq]; omega)
  have hlen : (orderOf (len ops.toList) ds).length = ds.length := by rw [len_eq]; omega
  have hat : ∀ (k : Nat) d, ds[k]? = some d → d.i = k ∧ ∃ o, ops[d.i]? = some o ∧ d.act = isAct (cd P xt o.op) ∧ d.it = itOf P xt ops.toList o ∧ (masksOf ops.toList [])[d.i]? = some d.m := by
    intro k d hd
    rw [← hds] at hd
    obtain ⟨o, m, k1, k2, rfl⟩ := numbered_at hd
    refine ⟨by simp, o, by simpa using k1, rfl, rfl, by simpa using k2⟩
  have hmem : ∀ d ∈ l, ∃ k : Nat, ds[k]? = some d := fun d hd => by
    obtain ⟨k, hk, rfl⟩ := List.getElem_of_mem (hperm.mem_iff.2 hd)
    exact ⟨k, List.getElem?_eq_getElem hk⟩
  have hnd : (ds.map (·.i)).Nodup := by
    have : ds.map (·.i) = List.range ds.length := by
      apply List.ext_getElem?
      intro k
      rw [List.getElem?_map]
      by_cases hk : k < ds.length
      · rw [List.getElem?_eq_getElem hk, List.getElem?_range hk]
        simp only [Option.map_some]
        rw [(hat k ds[k] (List.getElem?_eq_getElem hk)).1]
      · rw [List.getElem?_eq_none (by omega), List.getElem?_eq_none (by simpa using hk)]
        rfl
    rw [this]
    exact List.nodup_range
  have hndl : (l.map (·.i)).Nodup := (hperm.map _).nodup_iff.1 hnd
  refine ⟨?_, ?_, ?_, ?_, ?_, ?_⟩
  · intro p d hd
    obtain ⟨k, hk⟩ := hmem d (List.mem_of_getElem? hd)
    exact (hat k d hk).2
  · intro p q d d' hp hq he
    have hp' : (l.map (·.i))[p]? = some d.i := by rw [List.getElem?_map, hp]; rfl
    have hq' : (l.map (·.i))[q]? = some d.i := by rw [List.getElem?_map, hq]; simp [he]
    exact (List.getElem?_inj (List.getElem?_eq_some_iff.1 hp').1 hndl).1 (hp'.trans hq'.symm)
  · intro i hi
    have hi' : i < ds.length := by rw [h3, Array.length_toList]; exact hi
    have hm : ds[i] ∈ l := hperm.mem_iff.1 (List.getElem_mem hi')
    obtain ⟨p, hp, he⟩ := List.getElem_of_mem hm
    exact ⟨p, l[p], List.getElem?_eq_getElem hp, by rw [he]; exact (hat i _ (List.getElem?_eq_getElem hi')).1⟩
  · intro i o ho e he hb
    have := edgesOk_eq h1 i o (by simpa using ho) e he hb
    omega
  · rw [← hl]
    exact all2_eq h4
  · intro p q d z hpq hp hq hact hz
    rw [← hl] at hp hq ⊢
    have hsplit := List.take_append_drop p (orderOf (len ops.toList) ds)
    have hdrop : (orderOf (len ops.toList) ds).drop p = d :: (orderOf (len ops.toList) ds).drop (p + 1) := by
      have hp' := (List.getElem?_eq_some_iff.1 hp)
      rw [List.drop_eq_getElem_cons hp'.1, hp'.2]
    have hzm : z ∈ (orderOf (len ops.toList) ds).drop (p + 1) := by
      have : ((orderOf (len ops.toList) ds).drop (p + 1))[q - (p + 1)]? = some z := by
        rw [List.getElem?_drop, show p + 1 + (q - (p + 1)) = q by omega]
        exact hq
      exact List.mem_of_getElem? this
    obtain ⟨x, hx, hb⟩ := orderOf_greedy hlen ((orderOf (len ops.toList) ds).take p) ((orderOf (len ops.toList) ds).drop (p + 1)) d (by rw [← hdrop, hsplit]) hact z hzm hz
    rw [← hdrop] at hx
    obtain ⟨r, hr, rfl⟩ := List.getElem_of_mem hx
    refine ⟨p + r, _, by omega, ?_, hb⟩
    rw [← List.getElem?_drop]
    exact List.getElem?_eq_getElem hr

/-- two in their order, the first one not surely ahead: they do not touch each other -/
theorem pairOk_eq {ops : Array Oper} {d d' : Dt} {o o' : Oper} (h : pairOk ops.toList d d' = true) (ho : ops[d.i]? = some o) (ho' : ops[d'.i]? = some o') :
    bit d'.m d.i = true ∨ (¬ (d.act = true ∧ d'.act = true) ∧ (∀ t, o.dst = some t → t ∉ readsOf ops.toList o') ∧ (∀ t, o'.dst = some t → t ∉ readsOf ops.toList o) ∧ (∀ t, o.dst = some t → o'.dst ≠ some t)) := by
  unfold pairOk at h
  rw [bor_eq, Bool.or_eq_true] at h
  rcases h with h | h
  · exact .inl h
  · right
    simp only [nth_eq, Array.getElem?_toList, ho, ho'] at h
    simp only [bnot_eq, bor_eq, band_eq, Bool.not_eq_true', Bool.or_eq_false_iff] at h
    obtain ⟨h1, h2, h3, h4⟩ := h
    refine ⟨fun hh => (by rw [hh.1, hh.2] at h1; cases h1), fun t ht hm => ?_, fun t ht hm => ?_, fun t ht ht' => ?_⟩
    · rw [ht] at h2
      have : hasN t (readsOf ops.toList o') = true := hasN_iff.2 hm
      rw [show dstIn (some t) (readsOf ops.toList o') = hasN t (readsOf ops.toList o') from rfl, this] at h2
      cases h2
    · rw [ht] at h3
      have : hasN t (readsOf ops.toList o) = true := hasN_iff.2 hm
      rw [show dstIn (some t) (readsOf ops.toList o) = hasN t (readsOf ops.toList o) from rfl, this] at h3
      cases h3
    · rw [ht, ht'] at h4
      rw [show sameDst (some t) (some t) = Nat.beq t t from rfl] at h4
      simp at h4
end
end Go.Ev


/- A region that draws: what is known on the way, and how it goes on. -/
namespace Go.Ev
section
variable {P : Program} {xt : FuncId → Option XK} {F : Fence} {n : Nat} {Q : Exit → Act → World → Prop}

theorem veqs_sound {f : V → V → Bool} (hf : ∀ a b, f a b = true → a = b) : ∀ {l m : List V}, veqs f l m = true → l = m
  | [], [], _ => rfl
  | [], _ :: _, h => by cases h
  | _ :: _, [], h => by cases h
  | x :: l, y :: m, h => by
    have h' : sel (f x y) (veqs f l m) false = true := h
    rw [sel_eq] at h'
    split at h'
    · rename_i h1; rw [hf x y h1, veqs_sound hf h']
    · cases h'
theorem capEq_sound {a b : Option Nat} (h : capEq a b = true) : a = b := by
  cases a <;> cases b <;> first | rfl | (cases h; done) | (have := Nat.eq_of_beq_eq_true h; rw [this])
theorem veq0_sound {f : V → V → Bool} (hf : ∀ a b, f a b = true → a = b) {a b : V} (h : veq0 f a b = true) : a = b := by
  unfold veq0 at h
  cases a <;> cases b <;> first | rfl | (cases h; done) | skip
  case bool x y => cases x <;> cases y <;> first | rfl | cases h
  case int k m k' m' =>
    simp only [band_eq, Bool.and_eq_true, sameK_eq, decide_eq_true_eq, ieq_iff] at h
    rw [h.1, h.2]
  case str s t => rw [(natsEq_iff _ _).1 h]
  case ptr i o j p =>
    simp only [band_eq, Bool.and_eq_true] at h
    rw [Nat.eq_of_beq_eq_true h.1, Nat.eq_of_beq_eq_true h.2]
  case slice i o n c s j p m d t =>
    simp only [band_eq, Bool.and_eq_true] at h
    obtain ⟨h1, h2, h3, h4, h5⟩ := h
    rw [Nat.eq_of_beq_eq_true h1, Nat.eq_of_beq_eq_true h2, Nat.eq_of_beq_eq_true h3, capEq_sound h4, Nat.eq_of_beq_eq_true h5]
  case map i j => rw [Nat.eq_of_beq_eq_true h]
  case func g l m g' l' m' =>
    simp only [band_eq, Bool.and_eq_true] at h
    obtain ⟨h1, h2, h3⟩ := h
    rw [Nat.eq_of_beq_eq_true h1, veqs_sound hf h2, veqs_sound hf h3]
  case yield i j => rw [Nat.eq_of_beq_eq_true h]
  case iface t x u y =>
    simp only [band_eq, Bool.and_eq_true] at h
    rw [Nat.eq_of_beq_eq_true h.1, hf _ _ h.2]
  case agg l m => rw [veqs_sound hf h]
  case tup l m => rw [veqs_sound hf h]
theorem veq_sound : ∀ (k : Nat) (a b : V), veq k a b = true → a = b
  | 0, _, _, h => by cases h
  | k + 1, _, _, h => veq0_sound (veq_sound k) h
theorem seeAgain_eq {m : Nat} {st : St} : ∀ {ws : List Wt}, seeAgain m st ws = true → ∀ wt ∈ ws, bit m wt.i = false → wt.h wt.e st = some wt.v
  | [], _, wt, hw, _ => by cases hw
  | w :: ws, h, wt, hw, hb => by
    have h' : sel (bit m w.i) (seeAgain m st ws) (match w.h w.e st with | some v => sel (veq 8 v w.v) (seeAgain m st ws) false | none => false) = true := h
    rw [sel_eq] at h'
    split at h'
    · rename_i h1
      rcases List.mem_cons.1 hw with rfl | hw
      · rw [hb] at h1; cases h1
      · exact seeAgain_eq h' wt hw hb
    · split at h'
      · rename_i v hv
        rw [sel_eq] at h'
        split at h'
        · rename_i h2
          rcases List.mem_cons.1 hw with rfl | hw
          · rw [hv, veq_sound 8 _ _ h2]
          · exact seeAgain_eq h' wt hw hb
        · cases h'
      · cases h'

/-- an operation that does not act, reckoned already, not yet done: what it will come to -/
def Will (ρ : Ro) (st : St) (n0 : Nat) (e : Env) (v : V) (id : Option Nat) (ws : List Wt) (d : Dt) : Prop :=
  (∃ t want u, d.it.gd = .at t want ∧ look t e = some u ∧ isB want u = false ∧ v = .tup []) ∨
  ((d.it.gd = .free ∨ ∃ t want u, d.it.gd = .at t want ∧ look t e = some u ∧ isB want u = true) ∧
    ((∃ h, d.it.cd = .pure h ∧ h e = some v) ∨
     (∃ h, d.it.cd = .read h ∧ h e st = some v ∧ { i := d.i, h := h, e := e, v := v } ∈ ws) ∨
     (∃ h b fn i, d.it.cd = .make h ∧ h e = some (b, fn) ∧ id = some i ∧ v = fn i ∧ ρ i = none ∧ i < st.next ∧ n0 ≤ i ∧ st.h.get i = some b)))

def Done (listed : Array Bool) (d : Dt) : Prop := listed.getD d.i false = true

structure Lg (P : Program) (ops : Array Oper) (l : List Dt) (nt : Nat) (ρ₀ : Ro) (st₀ : St) (w₀ : World) (listed : Array Bool) (c : Nat) (E : Nat → Env) (vs : Nat → V) (ids : Nat → Option Nat) (ws : List Wt)
    (ρ : Ro) (st : St) (fd : List ADef) (a : Act) (w : World) : Prop where
  rh : RH P ρ st w.heap
  gl : Gl P ρ st
  ext : Ext ρ₀ st₀ w₀ ρ st w
  size : a.tmps.size = nt
  dr : DR ρ fd a.defers
  len : c ≤ l.length
  lsize : listed.size = ops.size
  down : Down ops.toList fun j => listed.getD j false = true
  step : ∀ p d, p < c → l[p]? = some d → E (p + 1) = putE (E p) d.it.dst (vs p)
  sub : ∀ p d, l[p]? = some d → Done listed d → p < c
  acts : ∀ p d, p < c → l[p]? = some d → d.act = true → Done listed d
  tmp : ∀ p, p ≤ c → ∀ u v, (E p).get u = some v → (∀ q d, l[q]? = some d → d.it.dst = some u → (q < p → Done listed d) ∧ (p ≤ q → ¬ Done listed d)) → ∃ X, a.tmps[u]? = some X ∧ VR ρ v X
  lag : ∀ p d, p < c → l[p]? = some d → ¬ Done listed d → Will ρ st st₀.next (E p) (vs p) (ids p) ws d
  idl : ∀ p i, p < c → ids p = some i → i < st.next
  idne : ∀ p q i, p < c → q < c → ids p = some i → ids q = some i → p = q

section
variable {ops : Array Oper} {l : List Dt} {nt : Nat} {ρ₀ ρ : Ro} {st₀ st : St} {w₀ w : World} {listed : Array Bool} {c : Nat} {E : Nat → Env} {vs : Nat → V} {ids : Nat → Option Nat} {ws : List Wt} {fd : List ADef} {a : Act}

/-- what surely comes ahead of one that is done, or may be done, is done -/
theorem Lg.ahead (h : Lg P ops l nt ρ₀ st₀ w₀ listed c E vs ids ws ρ st fd a w) (hp : Plan P xt ops l) {p : Nat} {d : Dt} {o : Oper} (hd : l[p]? = some d) (ho : ops[d.i]? = some o)
    (hr : ∀ e ∈ o.after, Region.binds .any e = true → listed.getD e.on false = true) {j : Nat} (hj : bit d.m j = true) : listed.getD j false = true := by
  obtain ⟨o', ho', _, _, hm⟩ := hp.it p d hd
  rw [ho] at ho'
  cases ho'
  exact mask_down h.down d.i o d.m (by simpa using ho) hm hr j hj
theorem Lg.ahead_done (h : Lg P ops l nt ρ₀ st₀ w₀ listed c E vs ids ws ρ st fd a w) (hp : Plan P xt ops l) {p : Nat} {d : Dt} (hd : l[p]? = some d) (hdn : Done listed d) {j : Nat} (hj : bit d.m j = true) : listed.getD j false = true := by
  obtain ⟨o, ho, _, _, hm⟩ := hp.it p d hd
  exact h.ahead hp hd ho (fun e he hb => h.down d.i o (by simpa using ho) hdn e he hb) hj

/-- the slots that an operation reads are as they were when it was reckoned -/
theorem Lg.reads (h : Lg P ops l nt ρ₀ st₀ w₀ listed c E vs ids ws ρ st fd a w) (hp : Plan P xt ops l) {p : Nat} {d : Dt} {o : Oper} (hd : l[p]? = some d) (hpc : p ≤ c) (ho : ops[d.i]? = some o) (hnd : ¬ Done listed d)
    (hr : ∀ e ∈ o.after, Region.binds .any e = true → listed.getD e.on false = true) {t : Nat} {v : V} (ht : t ∈ readsOf ops.toList o) (hv : (E p).get t = some v) : ∃ X, a.tmps[t]? = some X ∧ VR ρ v X := by
  refine h.tmp p hpc t v hv fun q d' hq hdst => ?_
  obtain ⟨o', ho', _, hit', _⟩ := hp.it q d' hq
  have hdst' : o'.dst = some t := by rw [hit'] at hdst; exact hdst
  constructor
  · intro hlt
    rcases pairOk_eq (hp.pair q p d' d hlt hq hd) ho' ho with hb | ⟨_, h2, _, _⟩
    · exact h.ahead hp hd ho hr hb
    · exact absurd ht (h2 t hdst')
  · intro hle
    rcases Nat.lt_or_eq_of_le hle with hlt | rfl
    · intro hdn
      rcases pairOk_eq (hp.pair p q d d' hlt hd hq) ho ho' with hb | ⟨_, _, h3, _⟩
      · exact hnd (h.ahead_done hp hq hdn hb)
      · exact absurd ht (h3 t hdst')
    · rw [hd] at hq
      cases hq
      exact hnd

theorem Lg.ho (h : Lg P ops l nt ρ₀ st₀ w₀ listed c E vs ids ws ρ st fd a w) (hp : Plan P xt ops l) {p : Nat} {d : Dt} {o : Oper} (hd : l[p]? = some d) (hpc : p ≤ c) (ho : ops[d.i]? = some o) (hnd : ¬ Done listed d)
    (hr : ∀ e ∈ o.after, Region.binds .any e = true → listed.getD e.on false = true) : HO P ρ (E p) a o := by
  intro x hx v hv
  cases x with
  | tmp t =>
    obtain ⟨X, hX, hXr⟩ := h.reads hp hd hpc ho hnd hr (readsOf_op hx) hv
    simp only [Act.eval]
    rw [Array.getD_eq_getD_getElem?, hX]
    exact hXr
  | const cc => exact cv_sound ρ hv
  | global g => exact eo_sound (P := P) (st := st) (e := .lf) (a := a) h.gl (fun i v hi => by simp at hi) hv
  | func f => exact eo_sound (P := P) (st := st) (e := .lf) (a := a) h.gl (fun i v hi => by simp at hi) hv

theorem done_set {i : Nat} (hi : i < listed.size) {d : Dt} : Done (listed.setIfInBounds i true) d ↔ d.i = i ∨ Done listed d := by
  unfold Done
  by_cases hd : d.i = i
  · rw [hd]
    simp [hi]
  · rw [getD_set_ne false (fun hh => hd hh.symm)]
    simp [hd]

/-- one that was reckoned already is done -/
theorem Lg.exec (h : Lg P ops l nt ρ₀ st₀ w₀ listed c E vs ids ws ρ st fd a w) (hp : Plan P xt ops l) {p : Nat} {d : Dt} {o : Oper} (hd : l[p]? = some d) (hpc : p < c) (ho : ops[d.i]? = some o) (hnd : ¬ Done listed d)
    (hr : ∀ e ∈ o.after, Region.binds .any e = true → listed.getD e.on false = true) (hdst : ∀ t, d.it.dst = some t → t < nt)
    {ρ' : Ro} {w' : World} {X : Value} (hle : Le ρ ρ') (hrh : RH P ρ' st w'.heap) (hext : Ext ρ₀ st₀ w₀ ρ' st w') (hgl : Gl P ρ' st) (hX : VR ρ' (vs p) X) (hno : ∀ q i, q < c → q ≠ p → ids q = some i → ρ i = none → ρ' i = none) :
    Lg P ops l nt ρ₀ st₀ w₀ (listed.setIfInBounds d.i true) c E vs ids ws ρ' st fd (a.put d.it.dst X) w' := by
  have hlt : d.i < listed.size := by rw [h.lsize]; exact (Array.getElem?_eq_some_iff.1 ho).1
  have hpos : ∀ q d', l[q]? = some d' → d'.i = d.i → q = p := fun q d' hq he => hp.inj q p d' d hq hd he
  refine ⟨hrh, hgl, hext, by rw [put_size]; exact h.size, by rw [put_defers]; exact h.dr.mono hle, h.len, by simp [h.lsize], ?_, h.step, ?_, ?_, ?_, ?_, h.idl, h.idne⟩
  · intro j o' ho' hj e he hb
    by_cases hji : j = d.i
    · subst hji
      rw [Array.getElem?_toList, ho] at ho'
      cases ho'
      exact getD_set_true (hr e he hb)
    · rw [getD_set_ne false (fun hh => hji hh.symm)] at hj
      exact getD_set_true (h.down j o' ho' hj e he hb)
  · intro q d' hq hdn
    rcases (done_set hlt).1 hdn with he | hdn
    · rw [hpos q d' hq he]; exact hpc
    · exact h.sub q d' hq hdn
  · intro q d' hqc hq hact
    exact (done_set hlt).2 (.inr (h.acts q d' hqc hq hact))
  · intro q hqc u v hv hcond
    by_cases hu : d.it.dst = some u
    · -- the slot that it writes
      have hpq : p < q := by
        rcases Nat.lt_or_ge p q with h1 | h1
        · exact h1
        · exact absurd ((done_set hlt).2 (.inl rfl)) ((hcond p d hd hu).2 h1)
      have hval : ∀ k, p + 1 + k ≤ q → (E (p + 1 + k)).get u = some (vs p) := by
        intro k
        induction k with
        | zero =>
          intro _
          rw [Nat.add_zero, h.step p d hpc hd, hu]
          simp [putE]
        | succ k ih =>
          intro hk
          have hkc : p + 1 + k < c := by omega
          obtain ⟨d', hd'⟩ : ∃ d', l[p + 1 + k]? = some d' := ⟨_, List.getElem?_eq_getElem (by have := h.len; omega)⟩
          rw [← Nat.add_assoc, h.step _ d' hkc hd']
          have hne : d'.it.dst ≠ some u := by
            intro hu'
            have hdn' := (hcond _ d' hd' hu').1 (by omega)
            rcases (done_set hlt).1 hdn' with he | hdn'
            · have := hpos _ d' hd' he; omega
            · obtain ⟨o', ho', _, hit', _⟩ := hp.it _ d' hd'
              obtain ⟨o2, ho2, _, hit2, _⟩ := hp.it p d hd
              have e1 : o2.dst = some u := by rw [hit2] at hu; exact hu
              have e2 : o'.dst = some u := by rw [hit'] at hu'; exact hu'
              rcases pairOk_eq (hp.pair p _ d d' (by omega) hd hd') ho2 ho' with hb | ⟨_, _, _, h4⟩
              · exact hnd (h.ahead_done hp hd' hdn' hb)
              · exact h4 u e1 e2
          have : (putE (E (p + 1 + k)) d'.it.dst (vs (p + 1 + k))).get u = (E (p + 1 + k)).get u := by
            cases hdd : d'.it.dst with
            | none => rfl
            | some t =>
              rw [hdd] at hne
              show ((E (p + 1 + k)).set t _).get u = _
              rw [Tr.get_set_ne _ _ (fun hh => hne (by rw [hh]))]
          rw [this]
          exact ih (by omega)
      have := hval (q - (p + 1)) (by omega)
      rw [show p + 1 + (q - (p + 1)) = q by omega, hv] at this
      cases this
      have hut := hdst u hu
      refine ⟨X, ?_, hX⟩
      rw [hu]
      show (a.tmps.setIfInBounds u X)[u]? = some X
      rw [Array.getElem?_setIfInBounds_self, if_pos (by rw [h.size]; exact hut)]
    · obtain ⟨Y, hY, hYr⟩ := h.tmp q hqc u v hv fun r d' hr' hdst' => by
        obtain ⟨c1, c2⟩ := hcond r d' hr' hdst'
        have hne : d'.i ≠ d.i := fun he => by
          have := hpos r d' hr' he
          subst this
          rw [hd] at hr'
          cases hr'
          exact hu hdst'
        exact ⟨fun hlt' => ((done_set hlt).1 (c1 hlt')).resolve_left hne, fun hle' hdn => c2 hle' ((done_set hlt).2 (.inr hdn))⟩
      refine ⟨Y, ?_, hYr.mono hle⟩
      cases hdd : d.it.dst with
      | none => exact hY
      | some t =>
        rw [hdd] at hu
        show (a.tmps.setIfInBounds t X)[u]? = some Y
        rw [Array.getElem?_setIfInBounds_ne (fun hh => hu (by rw [hh]))]
        exact hY
  · intro q d' hqc hq hdn
    have hdn' : ¬ Done listed d' := fun hh => hdn ((done_set hlt).2 (.inr hh))
    have hqp : q ≠ p := fun he => by
      subst he
      rw [hd] at hq
      cases hq
      exact hdn ((done_set hlt).2 (.inl rfl))
    rcases h.lag q d' hqc hq hdn' with h1 | ⟨h1, h2 | h2 | ⟨hh, b, fn, i, g1, g2, g3, g4, g5, g6, g7, g8⟩⟩
    · exact .inl h1
    · exact .inr ⟨h1, .inl h2⟩
    · exact .inr ⟨h1, .inr (.inl h2)⟩
    · exact .inr ⟨h1, .inr (.inr ⟨hh, b, fn, i, g1, g2, g3, g4, hno q i hqc hqp g3 g5, g6, g7, g8⟩)⟩
end
end
end Go.Ev


/- A region that draws: an operation that was reckoned already is done; one more is reckoned; one that acts is done. -/
namespace Go.Ev
section
variable {P : Program} {xt : FuncId → Option XK} {F : Fence} {n : Nat} {Q : Exit → Act → World → Prop}
variable {ops : Array Oper} {l : List Dt} {nt : Nat} {ρ₀ ρ : Ro} {st₀ st : St} {w₀ w : World} {listed : Array Bool} {c : Nat} {E : Nat → Env} {vs : Nat → V} {ids : Nat → Option Nat} {ws : List Wt} {fd : List ADef} {a : Act}

theorem Lg.lagExec (h : Lg P ops l nt ρ₀ st₀ w₀ listed c E vs ids ws ρ st fd a w) (hp : Plan P xt ops l) (hF : FOk F) {p : Nat} {d : Dt} {o : Oper} (hd : l[p]? = some d) (hpc : p < c) (ho : ops[d.i]? = some o) (hnd : ¬ Done listed d)
    (hr : ∀ e ∈ o.after, Region.binds .any e = true → listed.getD e.on false = true) (hdst : ∀ t, d.it.dst = some t → t < nt) (hdef : F.round = none ∨ ∀ c, o.op ≠ .defer c) {K : Act → World → Prop}
    (hK : ∀ ρ' a' w', Lg P ops l nt ρ₀ st₀ w₀ (listed.setIfInBounds d.i true) c E vs ids ws ρ' st fd a' w' → K a' w') : wpOpIn F n P ops Q d.i K a w := by
  obtain ⟨o', ho', _, hit, _⟩ := hp.it p d hd
  rw [ho] at ho'
  cases ho'
  have hgd : d.it.gd = gdOf ops.toList o := by rw [hit]; rfl
  have hdd : d.it.dst = o.dst := by rw [hit]; rfl
  have hcd : d.it.cd = cd P xt o.op := by rw [hit]; rfl
  have hHO := h.ho hp hd (Nat.le_of_lt hpc) ho hnd hr
  unfold wpOpIn
  simp only [ho]
  -- in the same world
  have same : ∀ {X : Value}, VR ρ (vs p) X → K (a.put o.dst X) w := fun {X} hX => by
    rw [← hdd]
    exact hK ρ _ _ (h.exec hp hd hpc ho hnd hr hdst (Le.refl _) h.rh h.ext h.gl hX fun _ _ _ _ _ hn => hn)
  rcases h.lag p d hpc hd hnd with ⟨t, want, u, g1, g2, g3, g4⟩ | ⟨g1, g2⟩
  · rw [hgd] at g1
    obtain ⟨X, hX, hXr⟩ := h.reads hp hd (Nat.le_of_lt hpc) ho hnd hr (readsOf_gd g1) g2
    rw [wanted_at g1 hX hXr, g3]
    simp only [Bool.false_eq_true, if_false]
    exact ⟨fun g _ => hF.fn g, same (by rw [g4]; exact VR.unit)⟩
  · have hw : Region.wanted o (yielded ops a.tmps) = true := by
      rcases g1 with g1 | ⟨t, want, u, k1, k2, k3⟩
      · rw [hgd] at g1; exact wanted_free g1
      · rw [hgd] at k1
        obtain ⟨X, hX, hXr⟩ := h.reads hp hd (Nat.le_of_lt hpc) ho hnd hr (readsOf_gd k1) k2
        rw [wanted_at k1 hX hXr]
        exact k3
    rw [if_pos hw]
    refine ⟨fun g _ => hF.fn g, ?_⟩
    rw [semAt_exec hdef]
    rw [hcd] at g2
    rcases g2 with ⟨H, k1, k2⟩ | ⟨H, k1, k2, _⟩ | ⟨H, b, fn, i, k1, k2, k3, k4, k5, k6, k7, k8⟩
    · obtain ⟨X, hX, hXr⟩ := pure_sound hHO k1 k2
      rw [hX w]
      exact same hXr
    · obtain ⟨X, hX, hXr⟩ := read_sound h.rh hHO k1 k2
      rw [hX]
      exact same hXr
    · obtain ⟨obj, X, m, cc, hX, hb⟩ := make_sound hHO k1 k2
      rw [hX w]
      obtain ⟨hb1, hb2⟩ := hb i w.heap.size k5
      show K (a.put o.dst (X w.heap.size)) (w.alloc obj)
      rw [← hdd]
      refine hK _ _ _ (h.exec hp hd hpc ho hnd hr hdst (Ro.le_set _ k5) (h.rh.lay k5 k6 k8 hb1) (h.ext.lay k5 k7 obj) ?_ (by rw [k4]; exact hb2) ?_)
      · intro g hg
        obtain ⟨q, e, nn, t, q1, q2, q3, q4⟩ := h.gl g hg
        have hne : g ≠ i := fun he => by subst he; rw [k5] at q1; cases q1
        exact ⟨q, e, nn, t, by rw [Ro.set_ne _ _ hne]; exact q1, q2, q3, q4⟩
      · intro q j hq hqp hj hjn
        have hne : j ≠ i := fun he => by
          subst he
          exact hqp (h.idne q p j hq hpc hj k3)
        rw [Ro.set_ne _ _ hne]
        exact hjn

theorem dIt_eq {self : Self} {d : Dt} {f f' : Fr} {st' : St} {k : Kd} {x : Ex} (h : dIt self d ws f st k = .out x f' st') :
    (∃ t want u, d.it.gd = .at t want ∧ look t f.e = some u ∧ isB want u = false ∧ k ws (f.put d.it.dst (.tup [])) st = .out x f' st') ∨
    ((d.it.gd = .free ∨ ∃ t want u, d.it.gd = .at t want ∧ look t f.e = some u ∧ isB want u = true) ∧ dDo self d ws f st k = .out x f' st') := by
  unfold dIt at h
  split at h
  · rename_i hg; exact .inr ⟨.inl hg, h⟩
  · rename_i t want hg
    split at h
    · cases h
    · rename_i u hu
      rw [sel_eq] at h
      split at h
      · rename_i hb; exact .inr ⟨.inr ⟨t, want, u, hg, hu, hb⟩, h⟩
      · rename_i hb; exact .inl ⟨t, want, u, hg, hu, by simpa using hb, h⟩
  · cases h

/-- one more is reckoned, that does not act -/
theorem Lg.more (h : Lg P ops l nt ρ₀ st₀ w₀ listed c E vs ids ws ρ st fd a w) {d : Dt} (hd : l[c]? = some d) (hq : d.act = false) {self : Self} {f f' : Fr} {st' : St} {k : Kd} {x : Ex}
    (hfe : f.e = E c) (hfd : f.d = fd) (hk : dIt self d ws f st k = .out x f' st') :
    ∃ (E' : Nat → Env) (vs' : Nat → V) (ids' : Nat → Option Nat) (ws' : List Wt) (f1 : Fr) (st1 : St), k ws' f1 st1 = .out x f' st' ∧ f1.e = E' (c + 1) ∧ f1.d = fd ∧ Lg P ops l nt ρ₀ st₀ w₀ listed (c + 1) E' vs' ids' ws' ρ st1 fd a w := by
  have hnd : ¬ Done listed d := fun hdn => Nat.lt_irrefl _ (h.sub c d hd hdn)
  have hcl : c < l.length := (List.getElem?_eq_some_iff.1 hd).1
  -- how it goes on, whatever it comes to
  have go : ∀ (v : V) (id : Option Nat) (ws' : List Wt) (st1 : St), RH P ρ st1 w.heap → Gl P ρ st1 → Ext ρ₀ st₀ w₀ ρ st1 w → Will ρ st1 st₀.next (E c) v id ws' d →
      (∀ p d', p < c → l[p]? = some d' → ¬ Done listed d' → Will ρ st st₀.next (E p) (vs p) (ids p) ws d' → Will ρ st1 st₀.next (E p) (vs p) (ids p) ws' d') → st.next ≤ st1.next → (∀ i, id = some i → st.next ≤ i ∧ i < st1.next) →
      Lg P ops l nt ρ₀ st₀ w₀ listed (c + 1) (fun p => if p = c + 1 then putE (E c) d.it.dst v else E p) (fun p => if p = c then v else vs p) (fun p => if p = c then id else ids p) ws' ρ st1 fd a w := by
    intro v id ws' st1 hrh hgl hext hw hold hnx hid
    refine ⟨hrh, hgl, hext, h.size, h.dr, hcl, h.lsize, h.down, ?_, ?_, ?_, ?_, ?_, ?_, ?_⟩
    · intro p d' hpc hpd
      by_cases he : p = c
      · subst he
        rw [hd] at hpd
        cases hpd
        simp
      · have : p < c := by omega
        simp only [show ¬ p + 1 = c + 1 by omega, show ¬ p = c + 1 by omega, he, if_false]
        exact h.step p d' this hpd
    · intro p d' hpd hdn
      have := h.sub p d' hpd hdn
      omega
    · intro p d' hpc hpd hact
      by_cases he : p = c
      · subst he
        rw [hd] at hpd
        cases hpd
        rw [hq] at hact
        cases hact
      · exact h.acts p d' (by omega) hpd hact
    · intro p hpc u y hy hcond
      by_cases he : p = c + 1
      · subst he
        simp only [if_true] at hy
        by_cases hu : d.it.dst = some u
        · exact absurd ((hcond c d hd hu).1 (by omega)) hnd
        · have hy' : (E c).get u = some y := by
            cases hdd : d.it.dst with
            | none => rw [hdd] at hy; exact hy
            | some t =>
              rw [hdd] at hy hu
              rw [show putE (E c) (some t) v = (E c).set t v from rfl, Tr.get_set_ne _ _ (fun hh => hu (by rw [hh]))] at hy
              exact hy
          refine h.tmp c (Nat.le_refl _) u y hy' fun q d' hq' hdst' => ⟨fun hlt => (hcond q d' hq' hdst').1 (by omega), fun hle hdn => ?_⟩
          have := h.sub q d' hq' hdn
          omega
      · simp only [he, if_false] at hy
        exact h.tmp p (by omega) u y hy hcond
    · intro p d' hpc hpd hdn
      by_cases he : p = c
      · subst he
        rw [hd] at hpd
        cases hpd
        simp only [show ¬ p = p + 1 by omega, if_true, if_false]
        exact hw
      · have hpc' : p < c := by omega
        simp only [show ¬ p = c + 1 by omega, he, if_false]
        exact hold p d' hpc' hpd hdn (h.lag p d' hpc' hpd hdn)
    · intro p i hpc hi
      by_cases he : p = c
      · subst he; simp only [if_true] at hi; exact (hid i hi).2
      · simp only [he, if_false] at hi
        have := h.idl p i (by omega) hi
        omega
    · intro p q i hpc hqc hpi hqi
      by_cases hep : p = c <;> by_cases heq : q = c
      · rw [hep, heq]
      · simp only [hep, heq, if_true, if_false] at hpi hqi
        have h1 := hid i hpi
        have h2 := h.idl q i (by omega) hqi
        omega
      · simp only [hep, heq, if_true, if_false] at hpi hqi
        have h1 := hid i hqi
        have h2 := h.idl p i (by omega) hpi
        omega
      · simp only [hep, heq, if_false] at hpi hqi
        exact h.idne p q i (by omega) (by omega) hpi hqi
  have fin : ∀ (v : V) (id : Option Nat) (ws' : List Wt) (st1 : St), k ws' (f.put d.it.dst v) st1 = .out x f' st' →
      Lg P ops l nt ρ₀ st₀ w₀ listed (c + 1) (fun p => if p = c + 1 then putE (E c) d.it.dst v else E p) (fun p => if p = c then v else vs p) (fun p => if p = c then id else ids p) ws' ρ st1 fd a w →
      ∃ (E' : Nat → Env) (vs' : Nat → V) (ids' : Nat → Option Nat) (ws' : List Wt) (f1 : Fr) (st1 : St), k ws' f1 st1 = .out x f' st' ∧ f1.e = E' (c + 1) ∧ f1.d = fd ∧ Lg P ops l nt ρ₀ st₀ w₀ listed (c + 1) E' vs' ids' ws' ρ st1 fd a w := by
    intro v id ws' st1 hk1 hl
    refine ⟨_, _, _, _, _, _, hk1, ?_, hfd, hl⟩
    simp only [if_true]
    show putE f.e d.it.dst v = _
    rw [hfe]
  rcases dIt_eq hk with ⟨t, want, u, g1, g2, g3, g4⟩ | ⟨g1, g2⟩
  · exact fin _ none ws st g4 (go _ none ws st h.rh h.gl h.ext (.inl ⟨t, want, u, g1, by rw [← hfe]; exact g2, g3, rfl⟩) (fun _ _ _ _ _ hw => hw) (Nat.le_refl _) (fun i hi => by cases hi))
  · rw [hfe] at g1
    unfold dDo at g2
    rw [hq, sel_false] at g2
    unfold dQuiet at g2
    split at g2
    · rename_i H hc
      obtain ⟨v, hv, hk1⟩ := onV_eq g2
      rw [hfe] at hv
      exact fin _ none ws st hk1 (go _ none ws st h.rh h.gl h.ext (.inr ⟨g1, .inl ⟨H, hc, hv⟩⟩) (fun _ _ _ _ _ hw => hw) (Nat.le_refl _) (fun i hi => by cases hi))
    · rename_i H hc
      split at g2
      · cases g2
      · rename_i v hv
        rw [hfe] at hv g2
        refine fin _ none _ st (by rw [show f.put d.it.dst v = f.put d.it.dst v from rfl]; exact g2) (go _ none _ st h.rh h.gl h.ext (.inr ⟨g1, .inr (.inl ⟨H, hc, hv, by simp⟩)⟩) ?_ (Nat.le_refl _) (fun i hi => by cases hi))
        intro p d' _ _ _ hw
        rcases hw with h1 | ⟨h1, h2 | ⟨hh, k1, k2, k3⟩ | h2⟩
        · exact .inl h1
        · exact .inr ⟨h1, .inl h2⟩
        · exact .inr ⟨h1, .inr (.inl ⟨hh, k1, k2, List.mem_cons_of_mem _ k3⟩)⟩
        · exact .inr ⟨h1, .inr (.inr h2)⟩
    · rename_i H hc
      obtain ⟨q, hv, hk1⟩ := onA_eq g2
      rw [hfe] at hv
      have hk2 : sel (seeAgain 0 (st.new q.1) ws) (k ws (f.put d.it.dst (q.2 st.next)) (st.new q.1)) .no = .out x f' st' := hk1
      rw [sel_eq] at hk2
      split at hk2
      · rename_i hsee
        have hnone := h.rh.none_of_ge (Nat.le_refl st.next)
        have he1 := Ext.hide h.rh q.1
        refine fin _ (some st.next) ws (st.new q.1) hk2 (go _ (some st.next) ws (st.new q.1) (h.rh.hide q.1) (h.gl.ext he1) (h.ext.trans he1) (.inr ⟨g1, .inr (.inr ⟨H, q.1, q.2, st.next, hc, hv, rfl, rfl, hnone, by simp, h.ext.next, by rw [St.get_new, if_pos rfl]⟩)⟩) ?_ (by simp) (fun i hi => by cases hi; simp))
        intro p d' hpc hpd hdn hw
        rcases hw with h1 | ⟨h1, h2 | ⟨hh, k1, k2, k3⟩ | ⟨hh, b, fn, i, k1, k2, k3, k4, k5, k6, k7, k8⟩⟩
        · exact .inl h1
        · exact .inr ⟨h1, .inl h2⟩
        · exact .inr ⟨h1, .inr (.inl ⟨hh, k1, seeAgain_eq hsee _ k3 (by rw [bit_eq, Nat.zero_testBit]), k3⟩)⟩
        · exact .inr ⟨h1, .inr (.inr ⟨hh, b, fn, i, k1, k2, k3, k4, k5, by simp; omega, k7, by rw [St.get_new, if_neg (by omega)]; exact k8⟩)⟩
      · cases hk2
    · cases g2
end
end Go.Ev

