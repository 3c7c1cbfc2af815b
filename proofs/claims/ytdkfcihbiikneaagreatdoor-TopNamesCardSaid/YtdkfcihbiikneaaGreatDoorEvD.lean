/- The evaluator: code, functions are sound; renaming of blocks; summaries of calls, and what they are worth. It holds without any condition on the inputs. -/
import Derived.Test.YtdkfcihbiikneaaGreatDoorEvC
import Derived.OpenShut
import Derived.MakeChecks
import GoSem.ClaimJoined
/- A region that draws: one that acts is done; the whole. -/
namespace Go.Ev
section
variable {P : Program} {xt : FuncId → Option XK} {F : Fence} {n : Nat} {Q : Exit → Act → World → Prop}
variable {ops : Array Oper} {l : List Dt} {nt : Nat} {ρ₀ ρ : Ro} {st₀ st : St} {w₀ w : World} {listed : Array Bool} {c : Nat} {E : Nat → Env} {vs : Nat → V} {ids : Nat → Option Nat} {ws : List Wt} {fd : List ADef} {a : Act}

theorem Lg.actOn (h : Lg P ops l nt ρ₀ st₀ w₀ listed c E vs ids ws ρ st fd a w) (hp : Plan P xt ops l) {d : Dt} {o : Oper} (hd : l[c]? = some d) (ho : ops[d.i]? = some o)
    (hr : ∀ e ∈ o.after, Region.binds .any e = true → listed.getD e.on false = true) (hdst : ∀ t, d.it.dst = some t → t < nt)
    {ρ1 : Ro} {st1 : St} {w1 : World} {v : V} {X : Value} {a1 : Act} {fd1 : List ADef} (hrh : RH P ρ1 st1 w1.heap) (hext : Ext ρ st w ρ1 st1 w1) (hv : VR ρ1 v X) (ha : a1.tmps = (a.put d.it.dst X).tmps) (hdr : DR ρ1 fd1 a1.defers)
    (hsee : ∀ p d' hh, p < c → l[p]? = some d' → ¬ Done listed d' → hh (E p) st = some (vs p) → { i := d'.i, h := hh, e := E p, v := vs p } ∈ ws → hh (E p) st1 = some (vs p)) :
    Lg P ops l nt ρ₀ st₀ w₀ (listed.setIfInBounds d.i true) (c + 1) (fun p => if p = c + 1 then putE (E c) d.it.dst v else E p) (fun p => if p = c then v else vs p) (fun p => if p = c then none else ids p) ws ρ1 st1 fd1 a1 w1 := by
  have hlt : d.i < listed.size := by rw [h.lsize]; exact (Array.getElem?_eq_some_iff.1 ho).1
  have hcl : c < l.length := (List.getElem?_eq_some_iff.1 hd).1
  have hpos : ∀ q d', l[q]? = some d' → d'.i = d.i → q = c := fun q d' hq he => hp.inj q c d' d hq hd he
  have hat : ∀ u, d.it.dst ≠ some u → ∀ Y, a.tmps[u]? = some Y → a1.tmps[u]? = some Y := by
    intro u hu Y hY
    rw [ha]
    cases hdd : d.it.dst with
    | none => exact hY
    | some t =>
      rw [hdd] at hu
      show (a.tmps.setIfInBounds t X)[u]? = some Y
      rw [Array.getElem?_setIfInBounds_ne (fun hh => hu (by rw [hh]))]
      exact hY
  refine ⟨hrh, h.gl.ext hext, h.ext.trans hext, by rw [ha, put_size]; exact h.size, hdr, hcl, by simp [h.lsize], ?_, ?_, ?_, ?_, ?_, ?_, ?_, ?_⟩
  · intro j o' ho' hj e he hb
    by_cases hji : j = d.i
    · subst hji
      rw [Array.getElem?_toList, ho] at ho'
      cases ho'
      exact getD_set_true (hr e he hb)
    · rw [getD_set_ne false (fun hh => hji hh.symm)] at hj
      exact getD_set_true (h.down j o' ho' hj e he hb)
  · intro p d' hpc hpd
    by_cases he : p = c
    · subst he
      rw [hd] at hpd
      cases hpd
      simp
    · have : p < c := by omega
      simp only [show ¬ p + 1 = c + 1 by omega, show ¬ p = c + 1 by omega, he, if_false]
      exact h.step p d' this hpd
  · intro q d' hq hdn
    rcases (done_set hlt).1 hdn with he | hdn
    · rw [hpos q d' hq he]; omega
    · have := h.sub q d' hq hdn; omega
  · intro q d' hqc hq hact
    by_cases he : q = c
    · subst he
      rw [hd] at hq
      cases hq
      exact (done_set hlt).2 (.inl rfl)
    · exact (done_set hlt).2 (.inr (h.acts q d' (by omega) hq hact))
  · intro p hpc u y hy hcond
    have down : ∀ q d', l[q]? = some d' → q < c → Done (listed.setIfInBounds d.i true) d' → Done listed d' := fun q d' hq hlt' hdn => by
      rcases (done_set hlt).1 hdn with he | hdn
      · have := hpos q d' hq he; omega
      · exact hdn
    by_cases he : p = c + 1
    · subst he
      simp only [if_true] at hy
      by_cases hu : d.it.dst = some u
      · rw [hu] at hy
        rw [show putE (E c) (some u) v = (E c).set u v from rfl, Tr.get_set_same] at hy
        cases hy
        have hut := hdst u hu
        refine ⟨X, ?_, hv⟩
        rw [ha, hu]
        show (a.tmps.setIfInBounds u X)[u]? = some X
        rw [Array.getElem?_setIfInBounds_self, if_pos (by rw [h.size]; exact hut)]
      · have hy' : (E c).get u = some y := by
          cases hdd : d.it.dst with
          | none => rw [hdd] at hy; exact hy
          | some t =>
            rw [hdd] at hy hu
            rw [show putE (E c) (some t) v = (E c).set t v from rfl, Tr.get_set_ne _ _ (fun hh => hu (by rw [hh]))] at hy
            exact hy
        obtain ⟨Y, hY, hYr⟩ := h.tmp c (Nat.le_refl _) u y hy' fun q d' hq' hdst' => ⟨fun hlt' => down q d' hq' hlt' ((hcond q d' hq' hdst').1 (by omega)), fun hle hdn => by have := h.sub q d' hq' hdn; omega⟩
        exact ⟨Y, hat u hu Y hY, hYr.mono hext.le⟩
    · simp only [he, if_false] at hy
      have hpc' : p ≤ c := by omega
      by_cases hu : d.it.dst = some u
      · exact absurd ((done_set hlt).2 (.inl rfl)) ((hcond c d hd hu).2 hpc')
      · obtain ⟨Y, hY, hYr⟩ := h.tmp p hpc' u y hy fun q d' hq' hdst' => ⟨fun hlt' => down q d' hq' (by omega) ((hcond q d' hq' hdst').1 hlt'), fun hle hdn => (hcond q d' hq' hdst').2 hle ((done_set hlt).2 (.inr hdn))⟩
        exact ⟨Y, hat u hu Y hY, hYr.mono hext.le⟩
  · intro q d' hqc hq hdn
    have hdn' : ¬ Done listed d' := fun hh => hdn ((done_set hlt).2 (.inr hh))
    have hqp : q ≠ c := fun he => by
      subst he
      rw [hd] at hq
      cases hq
      exact hdn ((done_set hlt).2 (.inl rfl))
    have hqc' : q < c := by omega
    simp only [show ¬ q = c + 1 by omega, hqp, if_false]
    rcases h.lag q d' hqc' hq hdn' with h1 | ⟨h1, h2 | ⟨hh, k1, k2, k3⟩ | ⟨hh, b, fn, i, g1, g2, g3, g4, g5, g6, g7, g8⟩⟩
    · exact .inl h1
    · exact .inr ⟨h1, .inl h2⟩
    · exact .inr ⟨h1, .inr (.inl ⟨hh, k1, hsee q d' hh hqc' hq hdn' k2 k3, k3⟩)⟩
    · obtain ⟨e1, e2⟩ := hext.hid i g6 g5
      have := hext.next
      exact .inr ⟨h1, .inr (.inr ⟨hh, b, fn, i, g1, g2, g3, g4, e1, by omega, g7, by rw [e2]; exact g8⟩)⟩
  · intro p i hpc hi
    by_cases he : p = c
    · subst he; simp at hi
    · simp only [he, if_false] at hi
      have := h.idl p i (by omega) hi
      have := hext.next
      omega
  · intro p q i hpc hqc hpi hqi
    by_cases hep : p = c
    · simp [hep] at hpi
    · by_cases heq : q = c
      · simp [heq] at hqi
      · simp only [hep, heq, if_false] at hpi hqi
        exact h.idne p q i (by omega) (by omega) hpi hqi

theorem Lg.actExec (hP : PH P xt) {self : Self} (hS : SelfOk P self) (hF : FOk F) (h : Lg P ops l nt ρ₀ st₀ w₀ listed c E vs ids ws ρ st fd a w) (hp : Plan P xt ops l) {d : Dt} {o : Oper} (hd : l[c]? = some d) (hact : d.act = true) (ho : ops[d.i]? = some o)
    (hr : ∀ e ∈ o.after, Region.binds .any e = true → listed.getD e.on false = true) (hdst : ∀ t, d.it.dst = some t → t < nt) (hdef : F.round = none ∨ ∀ c, o.op ≠ .defer c)
    {f f' : Fr} {st' : St} {k : Kd} {x : Ex} (hfe : f.e = E c) (hfd : f.d = fd) (hk : dIt self d ws f st k = .out x f' st') {K : Act → World → Prop}
    (hK : ∀ E' vs' ids' f1 st1 ρ1 a1 w1, k ws f1 st1 = .out x f' st' → f1.e = E' (c + 1) → Lg P ops l nt ρ₀ st₀ w₀ (listed.setIfInBounds d.i true) (c + 1) E' vs' ids' ws ρ1 st1 f1.d a1 w1 → K a1 w1) : wpOpIn F n P ops Q d.i K a w := by
  obtain ⟨o', ho', hact', hit, _⟩ := hp.it c d hd
  rw [ho] at ho'
  cases ho'
  have hnd : ¬ Done listed d := fun hdn => Nat.lt_irrefl _ (h.sub c d hd hdn)
  have hgd : d.it.gd = gdOf ops.toList o := by rw [hit]; rfl
  have hdd : d.it.dst = o.dst := by rw [hit]; rfl
  have hcd : d.it.cd = cd P xt o.op := by rw [hit]; rfl
  have hHO := h.ho hp hd (Nat.le_refl _) ho hnd hr
  unfold wpOpIn
  simp only [ho]
  rcases dIt_eq hk with ⟨t, want, u, g1, g2, g3, g4⟩ | ⟨g1, g2⟩
  · rw [hgd] at g1
    rw [hfe] at g2
    obtain ⟨X, hX, hXr⟩ := h.reads hp hd (Nat.le_refl _) ho hnd hr (readsOf_gd g1) g2
    rw [wanted_at g1 hX hXr, g3]
    simp only [Bool.false_eq_true, if_false]
    refine ⟨fun g _ => hF.fn g, ?_⟩
    refine hK _ _ _ _ st ρ _ w g4 ?_ (h.actOn hp hd ho hr hdst h.rh (Ext.refl _ _ _) (VR.unit (ρ := ρ)) (a1 := a.put o.dst undef) (fd1 := f.d) (by rw [hdd]) (by rw [put_defers, hfd]; exact h.dr) ?_)
    · simp only [if_true]
      show putE f.e _ _ = _
      rw [hfe]
    · exact fun _ _ _ _ _ _ hh _ => hh
  · have hw : Region.wanted o (yielded ops a.tmps) = true := by
      rcases g1 with g1 | ⟨t, want, u, k1, k2, k3⟩
      · rw [hgd] at g1; exact wanted_free g1
      · rw [hgd] at k1
        rw [hfe] at k2
        obtain ⟨X, hX, hXr⟩ := h.reads hp hd (Nat.le_refl _) ho hnd hr (readsOf_gd k1) k2
        rw [wanted_at k1 hX hXr]
        exact k3
    rw [if_pos hw]
    refine ⟨fun g _ => hF.fn g, ?_⟩
    rw [semAt_exec hdef]
    unfold dDo at g2
    rw [hact, sel_true, hcd, hdd] at g2
    have hbit : ∀ {st1 : St}, (∀ wt ∈ ws, bit d.m wt.i = false → wt.h wt.e st1 = some wt.v) → ∀ p d' hh, p < c → l[p]? = some d' → ¬ Done listed d' → hh (E p) st = some (vs p) → { i := d'.i, h := hh, e := E p, v := vs p } ∈ ws → hh (E p) st1 = some (vs p) := by
      intro st1 hs p d' hh _ hq hdn' _ hm
      have hb : bit d.m d'.i = false := by
        cases hb : bit d.m d'.i with
        | false => rfl
        | true => exact absurd (h.ahead hp hd ho hr hb) hdn'
      exact hs _ hm hb
    have hfin : ∀ {v : V} {st1 : St} {f1 : Fr}, sel (seeAgain d.m st1 ws) (k ws f1 st1) .no = .out x f' st' → (∀ wt ∈ ws, bit d.m wt.i = false → wt.h wt.e st1 = some wt.v) ∧ k ws f1 st1 = .out x f' st' := by
      intro v st1 f1 hs
      rw [sel_eq] at hs
      split at hs
      · rename_i hsee; exact ⟨seeAgain_eq hsee, hs⟩
      · cases hs
    cases hc : cd P xt o.op with
    | act H =>
      rw [hc] at g2
      cases hv : H f.e st with
      | none => rw [show doCd self o.dst f st (fun f st => sel (seeAgain d.m st ws) (k ws f st) .no) (.act H) = onNx self o.dst f st (fun f st => sel (seeAgain d.m st ws) (k ws f st) .no) (H f.e st) from rfl, hv] at g2; cases g2
      | some nx =>
        rw [show doCd self o.dst f st (fun f st => sel (seeAgain d.m st ws) (k ws f st) .no) (.act H) = onNx self o.dst f st (fun f st => sel (seeAgain d.m st ws) (k ws f st) .no) (H f.e st) from rfl, hv] at g2
        rw [hfe] at hv
        refine uponIn_nx hS hF h.rh h.gl g2 (act_sound hP h.rh hHO hc hv) ?_ ?_
        · intro v st1 X w1 ρ1 hk1 h1 h2 h3
          obtain ⟨hs1, hs2⟩ := hfin (v := v) hk1
          refine hK _ _ _ _ st1 ρ1 _ w1 hs2 ?_ (h.actOn hp hd ho hr hdst h2 h3 h1 (a1 := a.put o.dst X) (fd1 := f.d) (by rw [hdd]) (by rw [put_defers, hfd]; exact h.dr.mono h3.le) (hbit hs1))
          simp only [if_true]
          show putE f.e _ _ = _
          rw [hfe, hdd]
        · intro g args cc A hk1 hA
          obtain ⟨hs1, hs2⟩ := hfin (v := .nili) hk1
          refine hK _ _ _ _ st ρ _ w hs2 ?_ (h.actOn hp hd ho hr hdst h.rh (Ext.refl _ _ _) (VR.unit (ρ := ρ)) (a1 := ({ a with defers := { target := .fn (.func g) cc, args := A } :: a.defers } : Act).put o.dst undef) (fd1 := .call g args :: f.d) ?_ ?_ (hbit hs1))
          · simp only [if_true]
            show putE f.e _ _ = _
            rw [hfe, hdd]
          · rw [hdd]; cases o.dst <;> rfl
          · rw [put_defers, hfd]; exact ⟨_, cc, A, rfl, hA, h.dr⟩
    | no => rw [hc] at g2; cases g2
    | pure H => rw [hact'] at hact; rw [hc] at hact; cases hact
    | read H => rw [hact'] at hact; rw [hc] at hact; cases hact
    | make H => rw [hact'] at hact; rw [hc] at hact; cases hact

/-- the whole list that is left -/
theorem dIts_cons (self : Self) (d : Dt) (r : List Dt) (ws : List Wt) (f : Fr) (st : St) (k : Kt) : dIts self (d :: r) ws f st k = dIt self d ws f st fun ws f st => dIts self r ws f st k := rfl

/-- on to the next one that acts, or to the end -/
theorem Lg.drain (hp : Plan P xt ops l) {self : Self} {f' : Fr} {st' : St} {k : Kt} {x : Ex} : ∀ (m : Nat) {c : Nat} {E : Nat → Env} {vs : Nat → V} {ids : Nat → Option Nat} {ws : List Wt} {st : St} {f : Fr}, l.length - c = m → Lg P ops l nt ρ₀ st₀ w₀ listed c E vs ids ws ρ st f.d a w →
    f.e = E c → dIts self (l.drop c) ws f st k = .out x f' st' →
    ∃ (c1 : Nat) (E1 : Nat → Env) (vs1 : Nat → V) (ids1 : Nat → Option Nat) (ws1 : List Wt) (st1 : St) (f1 : Fr), Lg P ops l nt ρ₀ st₀ w₀ listed c1 E1 vs1 ids1 ws1 ρ st1 f1.d a w ∧ f1.e = E1 c1 ∧ dIts self (l.drop c1) ws1 f1 st1 k = .out x f' st' ∧ (∀ d, l[c1]? = some d → d.act = true)
  | 0, c, E, vs, ids, ws, st, f, hm, h, hfe, hk => ⟨c, E, vs, ids, ws, st, f, h, hfe, hk, fun d hd => by have := (List.getElem?_eq_some_iff.1 hd).1; omega⟩
  | m + 1, c, E, vs, ids, ws, st, f, hm, h, hfe, hk => by
    have hcl : c < l.length := by omega
    have hd := List.getElem?_eq_getElem hcl
    cases hact : l[c].act with
    | true => exact ⟨c, E, vs, ids, ws, st, f, h, hfe, hk, fun d hd' => by rw [hd] at hd'; cases hd'; exact hact⟩
    | false =>
      rw [List.drop_eq_getElem_cons hcl, dIts_cons] at hk
      obtain ⟨E', vs', ids', ws', f1, st1, h1, h2, h3, h4⟩ := h.more hd hact hfe rfl hk
      exact Lg.drain hp m (by omega) (by rw [h3]; exact h4) h2 h1

/-- how many are not done -/
def todo (listed : Array Bool) : Nat := (listed.toList.filter (fun b => !b)).length
theorem todo_set {i : Nat} (h : listed[i]? = some false) : todo (listed.setIfInBounds i true) + 1 = todo listed := by
  unfold todo
  rw [Array.toList_setIfInBounds]
  have h' : listed.toList[i]? = some false := by rw [Array.getElem?_toList]; exact h
  generalize listed.toList = l at h'
  clear h
  induction l generalizing i with
  | nil => simp at h'
  | cons b l ih =>
    cases i with
    | zero =>
      have h2 : b = false := by simpa using h'
      subst h2
      rfl
    | succ i =>
      have := ih (by simpa using h')
      rw [List.set_cons_succ, List.filter_cons, List.filter_cons]
      split <;> (try simp only [List.length_cons]) <;> omega

theorem drawn_any (hP : PH P xt) {self : Self} (hS : SelfOk P self) (hF : FOk F) (hp : Plan P xt ops l) (hdst : ∀ o ∈ ops, ∀ t, o.dst = some t → t < nt) (hdef : F.round = none ∨ ∀ o ∈ ops, ∀ c, o.op ≠ .defer c) {f' : Fr} {st' : St} {k : Kt} {x : Ex} (hQ : Goes P ρ₀ st₀ nt w₀ k x f' st' (Q .normal)) :
    ∀ (fuel : Nat) {listed : Array Bool} {c : Nat} {E : Nat → Env} {vs : Nat → V} {ids : Nat → Option Nat} {ws : List Wt} {ρ : Ro} {st : St} {f : Fr} {a : Act} {w : World}, todo listed ≤ fuel → Lg P ops l nt ρ₀ st₀ w₀ listed c E vs ids ws ρ st f.d a w → f.e = E c → dIts self (l.drop c) ws f st k = .out x f' st' →
      wpAnyIn F n P .any ops Q fuel listed a w := by
  intro fuel
  -- nothing is ready: all is done
  have done : ∀ {listed : Array Bool} {c : Nat} {E : Nat → Env} {vs : Nat → V} {ids : Nat → Option Nat} {ws : List Wt} {ρ : Ro} {st : St} {f : Fr} {a : Act} {w : World}, Lg P ops l nt ρ₀ st₀ w₀ listed c E vs ids ws ρ st f.d a w → f.e = E c → dIts self (l.drop c) ws f st k = .out x f' st' →
      Region.ready .any ops listed = [] → Q .normal a w := by
    intro listed c E vs ids ws ρ st f a w h hfe hk hrd
    have hall : ∀ i, i < ops.size → listed.getD i false = true := by
      intro i
      induction i using Nat.strongRecOn with
      | _ i ih =>
        intro hi
        cases hg : listed.getD i true with
        | true =>
          have hi' : i < listed.size := by rw [h.lsize]; exact hi
          simp only [Array.getD_eq_getD_getElem?, Array.getElem?_eq_getElem hi', Option.getD_some] at hg ⊢
          exact hg
        | false =>
          have : i ∈ Region.ready .any ops listed := mem_ready.2 ⟨hg, ops[i], Array.getElem?_eq_getElem hi, fun e he hb => by
            have hlt := hp.edge i ops[i] (Array.getElem?_eq_getElem hi) e he hb
            exact ih e.on hlt (by omega)⟩
          rw [hrd] at this
          cases this
    have hdone : ∀ p d, l[p]? = some d → Done listed d := fun p d hd => by
      obtain ⟨o, ho, _⟩ := hp.it p d hd
      exact hall d.i (Array.getElem?_eq_some_iff.1 ho).1
    have hcl : c = l.length := by
      have := h.len
      rcases Nat.lt_or_ge c l.length with h1 | h1
      · exact absurd (h.sub c _ (List.getElem?_eq_getElem h1) (hdone c _ (List.getElem?_eq_getElem h1))) (Nat.lt_irrefl _)
      · omega
    rw [hcl, List.drop_length] at hk
    refine hQ ρ st f a w hk ⟨h.rh, h.gl, fun u v hv => ?_, h.size, h.dr⟩ h.ext
    rw [hfe] at hv
    exact h.tmp c (Nat.le_refl _) u v hv fun q d hq _ => ⟨fun _ => hdone q d hq, fun hle => by have := (List.getElem?_eq_some_iff.1 hq).1; omega⟩
  induction fuel with
  | zero =>
    intro listed c E vs ids ws ρ st f a w hf h hfe hk
    have hnil : Region.ready .any ops listed = [] := by
      cases hrd : Region.ready .any ops listed with
      | nil => rfl
      | cons i r =>
        have hm : i ∈ Region.ready .any ops listed := by rw [hrd]; simp
        obtain ⟨h1, o, ho, _⟩ := mem_ready.1 hm
        have hi : i < listed.size := by rw [h.lsize]; exact (Array.getElem?_eq_some_iff.1 ho).1
        have h2 : listed[i]? = some false := by
          simp only [Array.getD_eq_getD_getElem?, Array.getElem?_eq_getElem hi, Option.getD_some] at h1
          rw [Array.getElem?_eq_getElem hi, h1]
        have := todo_set h2
        omega
    exact ⟨hnil, done h hfe hk hnil⟩
  | succ fuel ih =>
    intro listed c E vs ids ws ρ st f a w hf h hfe hk
    refine ⟨fun hrd => done h hfe hk hrd, fun i hi => ?_⟩
    obtain ⟨h1, o, ho, hr⟩ := mem_ready.1 hi
    have hio : i < ops.size := (Array.getElem?_eq_some_iff.1 ho).1
    have hil : i < listed.size := by rw [h.lsize]; exact hio
    have h2 : listed[i]? = some false := by
      simp only [Array.getD_eq_getD_getElem?, Array.getElem?_eq_getElem hil, Option.getD_some] at h1
      rw [Array.getElem?_eq_getElem hil, h1]
    have hts := todo_set h2
    have hmem : o ∈ ops := Array.mem_of_getElem? ho
    obtain ⟨p, d, hd, rfl⟩ := hp.all i hio
    have hnd : ¬ Done listed d := fun hdn => by
      unfold Done at hdn
      simp only [Array.getD_eq_getD_getElem?, h2, Option.getD_some] at hdn
      cases hdn
    obtain ⟨c1, E1, vs1, ids1, ws1, st1, f1, g1, g2, g3, g4⟩ := h.drain hp (l.length - c) rfl hfe hk
    obtain ⟨o2, ho2, hact2, hit, _⟩ := hp.it p d hd
    have hdst' : ∀ t, d.it.dst = some t → t < nt := fun t ht => by rw [hit] at ht; exact hdst o2 (Array.mem_of_getElem? ho2) t ht
    have hdef' : F.round = none ∨ ∀ c, o.op ≠ .defer c := hdef.imp id fun hh => hh o hmem
    rcases Nat.lt_or_ge p c1 with hpc | hpc
    · exact g1.lagExec hp hF hd hpc ho hnd hr hdst' hdef' fun ρ' a' w' hl => ih (by omega) hl g2 g3
    · -- it acts, and it is the next one
      have hc1 : c1 < l.length := by have := (List.getElem?_eq_some_iff.1 hd).1; omega
      have hhead := List.getElem?_eq_getElem hc1
      have hhact := g4 _ hhead
      have hpe : p = c1 := by
        rcases Nat.lt_or_eq_of_le hpc with hlt | he
        · exfalso
          obtain ⟨oh, hoh, _⟩ := hp.it c1 _ hhead
          have hnh : ¬ Done listed l[c1] := fun hdn => Nat.lt_irrefl _ (g1.sub c1 _ hhead hdn)
          cases hact : d.act with
          | true =>
            rcases pairOk_eq (hp.pair c1 p _ d hlt hhead hd) hoh ho with hb | ⟨h3, _⟩
            · exact hnh (g1.ahead hp hd ho hr hb)
            · exact h3 ⟨hhact, hact⟩
          | false =>
            obtain ⟨r, y, hcr, hy, hb⟩ := hp.greedy c1 p _ d hlt hhead hd hhact hact
            have hyd : Done listed y := g1.ahead hp hd ho hr hb
            have := g1.sub r y hy hyd
            omega
        · exact he.symm
      subst hpe
      rw [List.drop_eq_getElem_cons hc1, dIts_cons] at g3
      have hdd : l[p] = d := by
        rw [hd] at hhead
        exact (Option.some.inj hhead).symm
      rw [hdd] at g3 hhact
      refine g1.actExec hP hS hF hp hd hhact ho hr hdst' hdef' g2 rfl g3 fun E' vs' ids' f2 st2 ρ2 a2 w2 k1 k2 k3 => ?_
      exact ih (by omega) k3 k2 k1
end
end Go.Ev


/- Code. -/
namespace Go.Ev
section
variable {P : Program} {xt : FuncId → Option XK} {F : Fence} {n : Nat} {Q : Exit → Act → World → Prop}

def Ex.exit' : Ex → Exit
  | .normal => .normal
  | .exit i => .exit i
  | .ret => .ret
/-- what code comes to -/
def Post (P : Program) (ρ₀ : Ro) (st₀ : St) (w₀ : World) (nt : Nat) (x : Ex) (f' : Fr) (st' : St) : Exit → Act → World → Prop :=
  fun e a' w' => e = x.exit' ∧ ∃ ρ', Inv P ρ' st' f' nt a' w' ∧ Ext ρ₀ st₀ w₀ ρ' st' w'
theorem Post.on {ρ₀ ρ : Ro} {st₀ st : St} {w₀ w : World} {nt : Nat} {x : Ex} {f' : Fr} {st' : St} (h : Ext ρ₀ st₀ w₀ ρ st w) {e : Exit} {a' : Act} {w' : World} (k : Post P ρ st w nt x f' st' e a' w') : Post P ρ₀ st₀ w₀ nt x f' st' e a' w' := by
  obtain ⟨h1, ρ', h2, h3⟩ := k
  exact ⟨h1, ρ', h2, h.trans h3⟩

theorem Ext.undrew {ρ ρ' : Ro} {st st' : St} {w w' : World} (h : Ext ρ st w.drew ρ' st' w') : Ext ρ st w ρ' st' w' :=
  ⟨h.next, h.le, h.hid, h.size, h.old, h.kept, h.os, h.tape, h.output⟩

theorem region_sound (hP : PH P xt) {self : Self} (hS : SelfOk P self) (hF : FOk F) {id : Nat} {ops : Array Oper} {dr r : Bool} (hr : r = false → F.round = none) {fn : FuncId} {f f' : Fr} {st st' : St} {x : Ex} {ρ : Ro} {a : Act} {w : World}
    (hk : cRegion P xt ops.toList dr self fn r f st = .out x f' st') (hi : Inv P ρ st f (ntOf P fn) a w) : (Code.region id ops dr).wpIn F n P (Post P ρ st w (ntOf P fn) x f' st') a w := by
  unfold cRegion at hk
  rw [sel_eq] at hk
  split at hk
  · cases hk
  · rename_i hdf
    have hdef : F.round = none ∨ ∀ o ∈ ops, ∀ c, o.op ≠ .defer c := by
      cases r with
      | false => exact .inl (hr rfl)
      | true =>
        right
        have hd : hasDefer ops.toList = false := by simpa using hdf
        exact fun o ho => hasDefer_eq hd o (by simpa using ho)
    unfold rgOf at hk
    cases hds : dstsOk (ntOf P fn) ops.toList with
    | false => rw [hds] at hk; cases hk
    | true =>
      rw [hds, sel_true] at hk
      have hdst : ∀ o ∈ ops, ∀ d, o.dst = some d → d < ntOf P fn := fun o ho => dstsOk_eq hds o (by simpa using ho)
      have hfin : ∀ {w0 : World}, Goes P ρ st (ntOf P fn) w0 (fun f st => .out .normal f st) x f' st' (Post P ρ st w0 (ntOf P fn) x f' st' .normal) := by
        intro w0 ρ1 st1 f1 a1 w1 hk1 hi1 he1
        cases hk1
        exact ⟨rfl, ρ1, hi1, he1⟩
      cases dr with
      | false =>
        rw [sel_false] at hk
        refine wpIn_region ?_
        have := doIts_sound (F := F) (n := n) (Q := Post P ρ st w (ntOf P fn) x f' st') hP hS hF hdst hdef ops.toList [] rfl hi hk hfin
        rw [List.range_eq_range']
        simpa using this
      | true =>
        rw [sel_true] at hk
        cases hpl : plan P xt ops.toList with
        | none => rw [hpl] at hk; cases hk
        | some l =>
          rw [hpl] at hk
          have hk' : dIts self l [] f st (fun f st => .out .normal f st) = .out x f' st' := hk
          refine wpIn_region_any hP.mixed ?_
          have hp := plan_eq hpl
          have hlg : Lg P ops l (ntOf P fn) ρ st w.drew (Array.replicate ops.size false) 0 (fun _ => f.e) (fun _ => .nili) (fun _ => none) [] ρ st f.d a w.drew := by
            refine ⟨hi.rh, hi.gl, Ext.refl _ _ _, hi.size, hi.dr, Nat.zero_le _, by simp, ?_, fun p d h => by omega, ?_, fun p d h => by omega, ?_, fun p d h => by omega, fun p i h => by omega, fun p q i h => by omega⟩
            · intro j o _ hj
              simp only [Array.getD_eq_getD_getElem?, Array.getElem?_replicate] at hj
              split at hj <;> cases hj
            · intro p d _ hdn
              unfold Done at hdn
              simp only [Array.getD_eq_getD_getElem?, Array.getElem?_replicate] at hdn
              split at hdn <;> cases hdn
            · intro p _ u v hv _
              exact hi.tr u v hv
          have htodo : todo (Array.replicate ops.size false) ≤ ops.size := by
            unfold todo
            refine Nat.le_trans (List.length_filter_le _ _) ?_
            simp
          have := drawn_any (F := F) (n := n) (Q := Post P ρ st w (ntOf P fn) x f' st') hP hS hF hp hdst hdef (k := fun f st => .out .normal f st) (x := x) (f' := f') (st' := st') (ρ₀ := ρ) (st₀ := st) (w₀ := w.drew)
            (fun ρ1 st1 f1 a1 w1 hk1 hi1 he1 => by cases hk1; exact ⟨rfl, ρ1, hi1, he1.undrew⟩) ops.size (f := f) htodo hlg rfl (by simpa using hk')
          exact this

theorem least {p : Nat → Prop} (h : ∃ n, p n) : ∃ n, p n ∧ ∀ m, m < n → ¬ p m := by
  obtain ⟨n, hn⟩ := h
  induction n using Nat.strongRecOn with
  | _ n ih =>
    by_cases hh : ∃ m, m < n ∧ p m
    · obtain ⟨m, hm, hp⟩ := hh
      exact ih m hm hp
    · exact ⟨n, hn, fun m hm hp => hh ⟨m, hm, hp⟩⟩

theorem wpIn_loop_ix {c : Code} (J : Nat → Act → World → Prop) (round : ∀ m a w, J m a w → c.wpIn F n P (Exit.then (fun a' w' => ∃ m', m' < m ∧ J m' a' w') Q) a w) {m : Nat} {a : Act} {w : World} (h₀ : J m a w) : (Code.loop c).wpIn F n P Q a w := by
  classical
  refine wpIn_loop (fun a w => ∃ m, J m a w) (fun a w => if h : ∃ m, J m a w then (least h).choose else 0) ⟨m, h₀⟩ fun a w hI => ?_
  have hl := (least hI).choose_spec
  refine wpIn_mono (round _ a w hl.1) fun e a' w' hq => ?_
  cases e with
  | normal =>
    obtain ⟨m', hm', hJ⟩ := hq
    refine ⟨⟨m', hJ⟩, ?_⟩
    have hI' : ∃ m, J m a' w' := ⟨m', hJ⟩
    simp only [dif_pos hI', dif_pos hI]
    rcases Nat.lt_or_ge (least hI').choose (least hI).choose with h1 | h1
    · exact h1
    · exact absurd hJ ((least hI').choose_spec.2 m' (by omega))
  | _ => exact hq

theorem stepR_scope {b : Frame} {a : Act} {k : List Item} {cs : List Frame} {w : World} {c : Code} : step P (lone (b.atR a (.code (.scope c) :: k)) cs w) = .next (lone (b.atR a (.code c :: .inScope c :: k)) cs w) :=
  step_lone_go (by simp [stepG, stepG.exec, Frame.atR])
theorem stepR_inScope {b : Frame} {a : Act} {k : List Item} {cs : List Frame} {w : World} {c : Code} : step P (lone (b.atR a (.inScope c :: k)) cs w) = .next (lone (b.atR a k) cs w) :=
  step_lone_go (by simp [stepG, stepG.exec, Frame.atR])
theorem wpIn_scope {c : Code} {a : Act} {w : World} (h : c.wpIn F n P Q a w) (hg : ∀ l a w, ¬ Q (.goto l) a w) : (Code.scope c).wpIn F n P Q a w := by
  intro b k cs hro hb hr
  have h0 : (lone (b.atR a (.code (.scope c) :: k)) cs w).fenced P F := fenced_calm hb hr rfl
  obtain ⟨e, a₁, w₁, hq, harr⟩ := h b (.inScope c :: k) cs hro hb hr
  cases e with
  | normal => exact ⟨.normal, a₁, w₁, hq, .head h0 stepR_scope (StepsIn.trans harr (.one (fenced_calm hb hr rfl) stepR_inScope))⟩
  | exit id =>
    have hx : exitTo id (.inScope c :: k) = exitTo id k := by simp [exitTo]
    exact ⟨.exit id, a₁, w₁, hq, fun k' hk => .head h0 stepR_scope (harr.1 k' (by rw [hx]; exact hk)),
      fun hr' hk => let ⟨k₁, h1, h2⟩ := harr.2 hr' (by rw [hx]; exact hk); ⟨k₁, h1, .head h0 stepR_scope h2⟩⟩
  | goto l => exact (hg _ _ _ hq).elim
  | ret => exact ⟨_, a₁, w₁, hq, .of_steps (.one h0 stepR_scope) harr⟩
  | panic ch => exact ⟨_, a₁, w₁, hq, .of_steps (.one h0 stepR_scope) harr⟩
  | outgrown => exact ⟨_, a₁, w₁, hq, .of_steps (.one h0 stepR_scope) harr⟩
end
end Go.Ev


/- Code: all of it. -/
namespace Go.Ev
section
variable {P : Program} {xt : FuncId → Option XK} {F : Fence} {n : Nat} {Q : Exit → Act → World → Prop}

theorem Ex.no_goto (x : Ex) (l : Nat) : x.exit' ≠ .goto l := by cases x <;> intro h <;> cases h
theorem callFunc_body (hP : PH P xt) {f : FuncId} (h : hasBody P f = some true) (A : Array Value) (w : World) : (callFunc f A).run P w = .ok (.enter f A) w := by
  obtain ⟨fn, hf, hbd⟩ := hasBody_eq h
  have hname := hP.name f fn hf
  have : fn.body.isNone = false := by cases hc : fn.body with | none => rw [hc] at hbd; cases hbd | some c => rfl
  simp only [callFunc, Sem.run_bind, run_program, Result.andThen_ok, hf, hname, this, Bool.false_eq_true, if_false, Sem.run_pure]

theorem evC_skip : evC P xt .skip = cSkip := rfl
theorem evC_region (id : Nat) (ops : Array Oper) (dr : Bool) : evC P xt (.region id ops dr) = cRegion P xt ops.toList dr := rfl
theorem evC_seq (a b : Code) : evC P xt (.seq a b) = cSeq (evC P xt a) (evC P xt b) := rfl
theorem evC_cond (c : Operand) (a b : Code) : evC P xt (.cond c a b) = cCond P c (evC P xt a) (evC P xt b) := rfl
theorem evC_block (id : Nat) (c : Code) : evC P xt (.block id c) = cBlock id (evC P xt c) := rfl
theorem evC_loop (c : Code) : evC P xt (.loop c) = cLoop (evC P xt c) := rfl
theorem evC_range (g : Operand) (ps : Array Tmp) (x y : Code) : evC P xt (.rangeFunc g ps x y) = cRangeFunc P g ps.toList x y := rfl
theorem evC_exit (id : Nat) : evC P xt (.exit id) = cExit id := rfl
theorem evC_scope (c : Code) : evC P xt (.scope c) = evC P xt c := rfl
theorem evC_label (l : Nat) : evC P xt (.label l) = cSkip := rfl
theorem evC_goto (l : Nat) : evC P xt (.goto l) = cNo := rfl
theorem evC_ret : evC P xt .ret = cRet := rfl
theorem evC_refuse (s : String) : evC P xt (.refuse s) = cNo := rfl

def CodeOk (P : Program) (xt : FuncId → Option XK) (c : Code) : Prop :=
  ∀ {self : Self}, SelfOk P self → ∀ {F : Fence}, FOk F → ∀ (n : Nat) {r : Bool}, (r = false → F.round = none) → ∀ {fn : FuncId} {f f' : Fr} {st st' : St} {x : Ex} {ρ : Ro} {a : Act} {w : World},
    evC P xt c self fn r f st = .out x f' st' → Inv P ρ st f (ntOf P fn) a w → c.wpIn F n P (Post P ρ st w (ntOf P fn) x f' st') a w

theorem onNormal_eq {k : Kt} {o : Out} {x : Ex} {f' : Fr} {st' : St} (h : onNormal k o = .out x f' st') :
    ∃ x1 f1 st1, o = .out x1 f1 st1 ∧ ((x1 = .normal ∧ k f1 st1 = .out x f' st') ∨ (x1 ≠ .normal ∧ x1 = x ∧ f1 = f' ∧ st1 = st')) := by
  unfold onNormal at h
  split at h
  · cases h
  · rename_i x1 f1 st1
    refine ⟨x1, f1, st1, rfl, ?_⟩
    cases x1 with
    | normal => exact .inl ⟨rfl, h⟩
    | exit i => cases h; exact .inr ⟨by simp, rfl, rfl, rfl⟩
    | ret => cases h; exact .inr ⟨by simp, rfl, rfl, rfl⟩

theorem seq_sound {a b : Code} (ha : CodeOk P xt a) (hb : CodeOk P xt b) : CodeOk P xt (.seq a b) := by
  intro self hS F hF n r hr fn f f' st st' x ρ ac w hk hi
  rw [evC_seq] at hk
  obtain ⟨x1, f1, st1, h1, h2⟩ := onNormal_eq hk
  refine wpIn_seq (wpIn_mono (ha hS hF n hr h1 hi) fun e a' w' hq => ?_)
  obtain ⟨rfl, ρ', h3, h4⟩ := hq
  rcases h2 with ⟨rfl, h5⟩ | ⟨hne, rfl, rfl, rfl⟩
  · exact wpIn_mono (hb hS hF n hr h5 h3) fun e a'' w'' hq => hq.on h4
  · cases x1 with
    | normal => exact absurd rfl hne
    | exit i => exact ⟨rfl, ρ', h3, h4⟩
    | ret => exact ⟨rfl, ρ', h3, h4⟩

theorem cond_sound {c : Operand} {a b : Code} (ha : CodeOk P xt a) (hb : CodeOk P xt b) : CodeOk P xt (.cond c a b) := by
  intro self hS F hF n r hr fn f f' st st' x ρ ac w hk hi
  rw [evC_cond] at hk
  unfold cCond at hk
  split at hk
  · cases hk
  · rename_i v hv
    split at hk
    · rename_i bb
      have hvr := eo_sound hi.gl hi.tr hv
      simp only [VR] at hvr
      cases bb with
      | true => exact wpIn_cond_true hvr (ha hS hF n hr hk hi)
      | false => exact wpIn_cond_false hvr (hb hS hF n hr hk hi)
    · cases hk

theorem block_sound {id : Nat} {c : Code} (hc : CodeOk P xt c) : CodeOk P xt (.block id c) := by
  intro self hS F hF n r hr fn f f' st st' x ρ ac w hk hi
  rw [evC_block] at hk
  unfold cBlock at hk
  cases ho : evC P xt c self fn r f st with
  | no => rw [ho] at hk; cases hk
  | out x1 f1 st1 =>
    rw [ho] at hk
    refine wpIn_block (wpIn_mono (hc hS hF n hr ho hi) fun e a' w' hq => ?_)
    obtain ⟨rfl, ρ', h3, h4⟩ := hq
    cases x1 with
    | normal => cases hk; exact ⟨rfl, ρ', h3, h4⟩
    | ret => cases hk; exact ⟨rfl, ρ', h3, h4⟩
    | exit i =>
      have hk' : sel (Nat.beq id i) (Out.out .normal f1 st1) (.out (.exit i) f1 st1) = .out x f' st' := hk
      rw [sel_eq] at hk'
      split at hk'
      · rename_i hb
        obtain rfl := Nat.eq_of_beq_eq_true hb
        cases hk'
        simp only [Ex.exit', Exit.inBlock, if_true]
        exact ⟨rfl, ρ', h3, h4⟩
      · rename_i hb
        cases hk'
        have hne : ¬ i = id := fun e => hb (by rw [e]; exact Nat.beq_refl id)
        simp only [Ex.exit', Exit.inBlock, if_neg hne]
        exact ⟨rfl, ρ', h3, h4⟩

theorem iter_succ (body : Kt) (m : Nat) : iter body (m + 1) = fun f st => onNormal (iter body m) (body f st) := rfl
theorem loop_sound {c : Code} (hc : CodeOk P xt c) : CodeOk P xt (.loop c) := by
  intro self hS F hF n r hr fn f f' st st' x ρ ac w hk hi
  rw [evC_loop] at hk
  have hk' : iter (evC P xt c self fn r) 1000000 f st = .out x f' st' := hk
  refine wpIn_loop_ix (fun m a' w' => ∃ ρ' f1 st1, iter (evC P xt c self fn r) m f1 st1 = .out x f' st' ∧ Inv P ρ' st1 f1 (ntOf P fn) a' w' ∧ Ext ρ st w ρ' st1 w') (fun m a' w' hJ => ?_) (m := 1000000) ⟨ρ, f, st, hk', hi, Ext.refl _ _ _⟩
  obtain ⟨ρ', f1, st1, h1, h2, h3⟩ := hJ
  cases m with
  | zero => cases h1
  | succ m =>
    rw [iter_succ] at h1
    obtain ⟨x2, f2, st2, h4, h5⟩ := onNormal_eq h1
    refine wpIn_mono (hc hS hF n hr h4 h2) fun e a'' w'' hq => ?_
    obtain ⟨rfl, ρ'', h6, h7⟩ := hq
    rcases h5 with ⟨rfl, h8⟩ | ⟨hne, rfl, rfl, rfl⟩
    · exact ⟨m, by omega, ρ'', f2, st2, h8, h6, h3.trans h7⟩
    · cases x2 with
      | normal => exact absurd rfl hne
      | exit i => exact ⟨rfl, ρ'', h6, h3.trans h7⟩
      | ret => exact ⟨rfl, ρ'', h6, h3.trans h7⟩

theorem range_code_sound (hP : PH P xt) {g : Operand} {ps : Array Tmp} {x y : Code} : CodeOk P xt (.rangeFunc g ps x y) := by
  intro self hS F hF n r hr fn f f' st st' ex ρ ac w hk hi
  rw [evC_range] at hk
  unfold cRangeFunc at hk
  cases r with
  | true => cases hk
  | false =>
    have hround := hr rfl
    have hwide : F = Fence.wide := by
      rcases hF with h | ⟨l, h⟩
      · exact h
      · rw [h] at hround; cases hround
    subst hwide
    rw [sel_false] at hk
    cases hg : eo P g f.e with
    | none => rw [hg] at hk; cases hk
    | some gv =>
      rw [hg] at hk
      have hgr := eo_sound hi.gl hi.tr hg
      simp only at hk
      unfold callIter at hk
      split at hk
      · rename_i gf first cap
        split at hk
        · rename_i hbody
          split at hk
          · cases hk
          · rename_i res hself
            obtain ⟨v, st2⟩ := res
            simp only [VR] at hgr
            obtain ⟨A, B, hge, hA, hB⟩ := hgr
            have r1 := hi.rh.fresh (n := 0) (c := false) (b := .dfr false) (o := .deferred (some [])) ⟨rfl, rfl⟩
            have e1 := Ext.fresh hi.rh (n := 0) (c := false) (.dfr false) (.deferred (some []))
            refine wpIn_rangeFunc fun fn' _ => ?_
            let yv : Value := .func (.yield (w.heap.size + 1)) #[] #[]
            let rec0 : Loop := { state := .ready, pending := none, fn := fn', tmps := ac.tmps, params := ps, assign := x, body := y, defers := w.heap.size }
            have hD1 : (ρ.set st.next (some ⟨w.heap.size, 0, 0, false⟩)) st.next = some (some ⟨w.heap.size, 0, 0, false⟩) := Ro.set_same _ _ _
            have hnone : (ρ.set st.next (some ⟨w.heap.size, 0, 0, false⟩)) (st.new (.dfr false)).next = none := r1.none_of_ge (Nat.le_refl _)
            have hsz : (w.alloc (.deferred (some []))).heap.size = w.heap.size + 1 := by simp
            have r2 := r1.fresh (w := w.alloc (.deferred (some []))) (n := 0) (c := false) (b := .loop .ready none fn f.e ps.toList x y st.next) (o := .loop rec0)
              ⟨rfl, ac.tmps, ⟨w.heap.size, 0, 0, false⟩, fn', by simp [rec0], by rw [Ro.set_ne _ _ (by simp)]; exact hD1, rfl, hi.size, (hi.tr.mono e1.le).mono (Ro.le_set _ hnone)⟩
            have e2 := Ext.fresh r1 (w := w.alloc (.deferred (some []))) (n := 0) (c := false) (.loop .ready none fn f.e ps.toList x y st.next) (.loop rec0)
            have e12 := e1.trans e2
            rw [hsz] at r2 e2 e12
            have hY : VR ((ρ.set st.next (some ⟨w.heap.size, 0, 0, false⟩)).set (st.new (.dfr false)).next (some ⟨w.heap.size + 1, 0, 0, false⟩)) (.yield (Nat.add st.next 1)) (.func (.yield (w.heap.size + 1)) #[] #[]) := by
              simp only [VR]
              exact .inl ⟨_, Ro.set_same _ _ _, rfl⟩
            have hargs : VRs ((ρ.set st.next (some ⟨w.heap.size, 0, 0, false⟩)).set (st.new (.dfr false)).next (some ⟨w.heap.size + 1, 0, 0, false⟩)) (first ++ (.yield (Nat.add st.next 1) :: cap)) ((A ++ #[yv]) ++ B).toList := by
              rw [Array.append_assoc]
              refine (VRs.mono e12.le _ _ hA).appendA ?_
              rw [Array.toList_append]
              exact VRs.cons hY (VRs.mono e12.le _ _ hB)
            refine ⟨w.heap.size + 1, [{ target := .collected w.heap.size, args := #[] }], (w.alloc (.deferred (some []))).alloc (.loop rec0), { target := .fn (.func gf) B, args := A ++ #[yv] }, (w.alloc (.deferred (some []))).alloc (.loop rec0), gf, (A ++ #[yv]) ++ B, (w.alloc (.deferred (some []))).alloc (.loop rec0),
              run_enterLoop_outer fn' ac.tmps ps x y, ?_, fun _ _ => trivial, ?_, ?_, ?_⟩
            · simp only [resolve, hge]
              rw [show Array.map ac.eval #[Operand.const (Value.func (Fn.yield (w.heap.size + 1)) #[] #[])] = #[yv] from by simp [Act.eval, yv]]
              rfl
            · exact callFunc_body hP hbody _ _
            · intro h
              cases h
            · refine CallsIn.mono (hS.fn gf _ _ v st2 hself _ _ _ (n - 1) r2 (hi.gl.ext e12) hargs) fun e w3 he => ?_
              obtain ⟨X, ρ3, rfl, _, r3, e3⟩ := he
              -- the loop's record, when the function has ended
              unfold endLoop loopAt at hk
              have hL2 : ((ρ.set st.next (some ⟨w.heap.size, 0, 0, false⟩)).set (st.new (.dfr false)).next (some ⟨w.heap.size + 1, 0, 0, false⟩)) (Nat.add st.next 1) = some (some ⟨w.heap.size + 1, 0, 0, false⟩) := Ro.set_same _ _ _
              have hD2 : ((ρ.set st.next (some ⟨w.heap.size, 0, 0, false⟩)).set (st.new (.dfr false)).next (some ⟨w.heap.size + 1, 0, 0, false⟩)) st.next = some (some ⟨w.heap.size, 0, 0, false⟩) := by rw [Ro.set_ne _ _ (by simp)]; exact hD1
              have hL3 := e3.le.stays hL2 rfl
              have hD3 := e3.le.stays hD2 rfl
              split at hk
              · cases hk
              · rename_i b hb
                split at hk
                · rename_i s pend fn2 t2 ps2 a2 b2 D2
                  obtain ⟨o, ho, hpc, rr, q, fn3, rfl, h1, h2, h3, h4⟩ := r3.block hL3 hb
                  have hfin : s ≠ .busy → ∀ (P' : Prop), (∀ st4, st4 = st2.upd (Nat.add st.next 1) (.loop .exhausted pend fn2 t2 ps2 a2 b2 D2) → (∃ w4, (Instr.endLoop (w.heap.size + 1)).run P w3 = .ok pend w4 ∧ Inv P ρ3 st4 { e := f.e, d := .collected st.next :: f.d } (ntOf P fn) { ac with defers := { target := .collected w.heap.size, args := #[] } :: ac.defers } w4 ∧ Ext ρ st w ρ3 st4 w4) → P') → P' := by
                    intro hs P' hK
                    have hrun := run_endLoop (P := P) (w := w3) ho hs
                    have e4 : Ext ρ3 st2 w3 ρ3 (st2.upd (Nat.add st.next 1) (.loop .exhausted pend fn2 t2 ps2 a2 b2 D2)) _ := Ext.turn r3 hL3 hb (b' := .loop .exhausted pend fn2 t2 ps2 a2 b2 D2) (o' := .loop { state := .exhausted, pending := pend, fn := fn3, tmps := rr, params := ps2.toArray, assign := a2, body := b2, defers := q.r }) fun _ _ _ hh => by cases hh
                    have etot := (e12.trans e3).trans e4
                    refine hK _ rfl ⟨_, hrun, ⟨r3.turn hL3 ⟨hpc, rr, q, fn3, rfl, h1, h2, h3, h4⟩, hi.gl.ext etot, hi.tr.mono etot.le, hi.size, ?_⟩, etot⟩
                    exact ⟨_, _, rfl, hD3, rfl, hi.dr.mono etot.le⟩
                  have hs : s ≠ .busy := fun hs => by subst hs; cases hk
                  have hk2 : (match pend with
                    | none => Out.out .normal { e := f.e, d := .collected st.next :: f.d } (st2.upd (Nat.add st.next 1) (.loop .exhausted pend fn2 t2 ps2 a2 b2 D2))
                    | some c => (match c with
                      | .ret => .out .ret { e := f.e, d := .collected st.next :: f.d } (st2.upd (Nat.add st.next 1) (.loop .exhausted pend fn2 t2 ps2 a2 b2 D2))
                      | .exit id => .out (.exit id) { e := f.e, d := .collected st.next :: f.d } (st2.upd (Nat.add st.next 1) (.loop .exhausted pend fn2 t2 ps2 a2 b2 D2))
                      | _ => .no)) = .out ex f' st' := by
                    cases s <;> first | exact hk | exact absurd rfl hs
                  refine hfin hs _ fun st4 hst4 ⟨w4, q1, q2, q3⟩ => ?_
                  refine ⟨pend, w4, q1, ?_⟩
                  rw [← hst4] at hk2
                  cases pend with
                  | none => cases hk2; exact ⟨rfl, ρ3, q2, q3⟩
                  | some c =>
                    cases c <;> first | (cases hk2; done) | skip
                    case ret => cases hk2; exact wpIn_ret ⟨rfl, ρ3, q2, q3⟩
                    case exit id => cases hk2; exact wpIn_exit ⟨rfl, ρ3, q2, q3⟩
                · cases hk
        · cases hk
      · cases hk

theorem code_sound (hP : PH P xt) : ∀ c : Code, CodeOk P xt c := by
  intro c
  induction c with
  | skip => exact fun _ _ _ _ _ _ _ _ _ _ _ _ ρ _ _ hk hi => by cases hk; exact wpIn_skip ⟨rfl, ρ, hi, Ext.refl _ _ _⟩
  | region id ops dr => exact fun hS _ hF n _ hr _ _ _ _ _ _ _ _ _ hk hi => region_sound hP hS hF hr hk hi
  | seq a b iha ihb => exact seq_sound iha ihb
  | cond c a b iha ihb => exact cond_sound iha ihb
  | block id c ih => exact block_sound ih
  | loop c ih => exact loop_sound ih
  | rangeFunc g ps x y _ _ => exact range_code_sound hP
  | exit id => exact fun _ _ _ _ _ _ _ _ _ _ _ _ ρ _ _ hk hi => by cases hk; exact wpIn_exit ⟨rfl, ρ, hi, Ext.refl _ _ _⟩
  | scope c ih => exact fun hS _ hF n _ hr _ _ _ _ _ _ _ _ _ hk hi => wpIn_scope (ih hS hF n hr hk hi) fun l a w hq => Ex.no_goto _ l hq.1.symm
  | label l => exact fun _ _ _ _ _ _ _ _ _ _ _ _ ρ _ _ hk hi => by cases hk; exact wpIn_label ⟨rfl, ρ, hi, Ext.refl _ _ _⟩
  | goto l => exact fun _ _ _ _ _ _ _ _ _ _ _ _ ρ _ _ hk hi => by cases hk
  | ret => exact fun _ _ _ _ _ _ _ _ _ _ _ _ ρ _ _ hk hi => by cases hk; exact wpIn_ret ⟨rfl, ρ, hi, Ext.refl _ _ _⟩
  | refuse s => exact fun _ _ _ _ _ _ _ _ _ _ _ _ ρ _ _ hk hi => by cases hk
end
end Go.Ev


/- Functions: what they hand back; deferred calls; rounds; and so all that the evaluator runs. -/
namespace Go.Ev
section
variable {P : Program} {xt : FuncId → Option XK}

theorem resultsOf_sound {ρ : Ro} {st : St} {e : Env} {tmps : Array Value} {w : World} (hr : RH P ρ st w.heap) (ht : TR ρ e tmps) : ∀ {rs : List ResultVar} {l : List V}, resultsOf P rs e st = some l →
    ∃ xs : List Value, VRs ρ l xs ∧ ∀ g : ResultVar → Sem Value, (∀ t, g (.tmp t) = pure (tmps.getD t undef)) → (∀ a t, g (.cell a t) = (do loadVar t (← asAddr (tmps.getD a undef)))) → (rs.mapM g).run P w = .ok xs w
  | [], l, h => by cases h; exact ⟨[], VRs.nil, fun _ _ _ => rfl⟩
  | r :: rs, l, h => by
    rw [show resultsOf P (r :: rs) e st = obind (match r with
      | .tmp t => look t e
      | .cell a t => obind (look a e) fun v => vptr v fun id off => Ev.load P st t id off) fun v => obind (resultsOf P rs e st) fun l => some (v :: l) from rfl, obind_eq] at h
    obtain ⟨v, hv, h⟩ := h
    rw [obind_eq] at h
    obtain ⟨m, hm, h⟩ := h
    cases h
    obtain ⟨xs, h2, h1⟩ := resultsOf_sound hr ht hm
    cases r with
    | tmp t =>
      obtain ⟨x, hx, hxr⟩ := ht t v hv
      refine ⟨x :: xs, VRs.cons hxr h2, fun g g1 g2 => ?_⟩
      simp only [List.mapM_cons, Sem.run_bind, Sem.run_pure, Result.andThen_ok, h1 g g1 g2, g1]
      rw [Array.getD_eq_getD_getElem?, hx]
      rfl
    | cell a t =>
      simp only at hv
      rw [obind_eq] at hv
      obtain ⟨u, hu, hv⟩ := hv
      obtain ⟨id, off, rfl, hl⟩ := vptr_eq hv
      obtain ⟨x, hx, hxr⟩ := ht a _ hu
      obtain ⟨z, hz, hzr⟩ := load_sound hr hxr hl
      refine ⟨z :: xs, VRs.cons hzr h2, fun g g1 g2 => ?_⟩
      have hA : ∃ A, x = .pointer (some A) := by
        simp only [VR] at hxr
        rcases hxr with ⟨_, _, rfl⟩ | ⟨_, A, rfl⟩ <;> exact ⟨_, rfl⟩
      obtain ⟨A, rfl⟩ := hA
      have hz' : (loadVar t A).run P w = .ok z w := by simpa [Instr.loadAt, Instr.sureAddr] using hz
      simp only [List.mapM_cons, Sem.run_bind, g2]
      rw [Array.getD_eq_getD_getElem?, hx]
      simp only [Option.getD_some, asAddr, Sem.run_pure, Result.andThen_ok, hz', h1 g g1 g2]

theorem results_sound {ρ : Ro} {st st' : St} {e : Env} {tmps : Array Value} {w : World} {fn : Func} {v : V} (hr : RH P ρ st w.heap) (ht : TR ρ e tmps) (h : Ev.results P fn.results.toList e st = some (v, st')) :
    st' = st ∧ ∃ X, (_root_.Go.results fn tmps).run P w = .ok X w ∧ VR ρ v X := by
  unfold Ev.results at h
  rw [obind_eq] at h
  obtain ⟨l, hl, h⟩ := h
  obtain ⟨xs, h2, h1⟩ := resultsOf_sound hr ht hl
  have hrun : ∀ (X : Value), (if hh : xs.toArray.size = 1 then xs.toArray[0] else .tuple xs.toArray) = X → (_root_.Go.results fn tmps).run P w = .ok X w := by
    intro X hX
    unfold _root_.Go.results
    rw [Array.mapM_eq_mapM_toList]
    simp only [Sem.run_bind, Sem.run_map, Sem.run_pure]
    rw [h1 _ ?a ?b]
    · simp only [Result.andThen_ok]
      rw [← hX]
    case a => intro t; rfl
    case b => intro a t; rfl
  split at h
  · cases h
    simp only [VRs] at h2
    obtain ⟨y, _, rfl, hy, rfl⟩ := h2
    exact ⟨rfl, y, hrun y (by simp), hy⟩
  · rename_i hne
    cases h
    have hlen := h2.len
    have h1' : ¬ xs.toArray.size = 1 := by
      intro hh
      have : l.length = 1 := by rw [← hlen]; simpa using hh
      obtain ⟨u, rfl⟩ := List.length_eq_one_iff.1 this
      exact hne u rfl
    exact ⟨rfl, .tuple xs.toArray, hrun _ (by rw [dif_neg h1']), by simp only [VR]; exact ⟨_, rfl, h2⟩⟩

theorem TR.args {ρ : Ro} {args : List V} {A : Array Value} (h : VRs ρ args A.toList) (k : Nat) : TR ρ (.ofList args) (A ++ Array.replicate k undef) := by
  intro i v hv
  rw [Tr.get_ofList] at hv
  obtain ⟨x, hx, hr⟩ := h.get.2 i v hv
  rw [Array.getElem?_toList] at hx
  have hi := (Array.getElem?_eq_some_iff.1 hx).1
  exact ⟨x, by rw [Array.getElem?_append, if_pos hi]; exact hx, hr⟩

theorem ntOf_eq {f : FuncId} {fn : Func} (h : P.funcs[f]? = some fn) : ntOf P f = fn.ntmps := by unfold ntOf; rw [h]

theorem enter_inv {ρ : Ro} {st : St} {w : World} {f : FuncId} {fn : Func} {args : List V} {A : Array Value} (hf : P.funcs[f]? = some fn) (hr : RH P ρ st w.heap) (hg : Gl P ρ st) (ha : VRs ρ args A.toList) (hle : args.length ≤ fn.ntmps) :
    Inv P ρ st { e := .ofList args, d := [] } (ntOf P f) { tmps := A ++ Array.replicate (fn.ntmps - A.size) undef, defers := [] } w := by
  have hlen := ha.len
  refine ⟨hr, hg, TR.args ha _, ?_, rfl⟩
  rw [ntOf_eq hf]
  simp at hlen ⊢
  omega

/-- deferred calls, one by one, and then the results -/
theorem leave_sound (hP : PH P xt) {self : Self} (hS : SelfOk P self) {fn : Func} {ρ₀ : Ro} {st₀ : St} {w₀ : World} {v : V} {st' : St} (n : Nat) {e : Env} {tmps : Array Value} :
    ∀ {ds : List ADef} {ρ : Ro} {st : St} {w : World} {dl : List Deferred}, leave P self fn.results.toList e ds st = some (v, st') → RH P ρ st w.heap → Gl P ρ st → TR ρ e tmps → DR ρ ds dl → Ext ρ₀ st₀ w₀ ρ st w →
      LeavesInM Fence.wide n P fn tmps (RetOk P ρ₀ st₀ w₀ v st') dl .returning w
  | [], ρ, st, w, dl, h, hr, hg, ht, hd, he => by
    simp only [DR] at hd
    subst hd
    obtain ⟨rfl, X, h1, h2⟩ := results_sound hr ht h
    exact ⟨X, h1, X, ρ, rfl, h2, hr, he⟩
  | .collected id :: ds, ρ, st, w, dl, h, hr, hg, ht, hd, he => by
    obtain ⟨l', p, rfl, hp, hpc, hd'⟩ := hd
    rw [show leave P self fn.results.toList e (.collected id :: ds) st = obind (st.h.get id) fun b => (match b with | .dfr t => sel t none (leave P self fn.results.toList e ds (st.upd id (.dfr true))) | _ => none) from rfl, obind_eq] at h
    obtain ⟨b, hb, h⟩ := h
    split at h
    · rename_i t
      cases t with
      | true => cases h
      | false =>
        rw [sel_false] at h
        obtain ⟨o, ho, _, rfl⟩ := hr.block hp hb
        have ho' : w.heap[p.r]? = some (.deferred (some [])) := ho
        have e1 := Ext.turn hr hp hb (b' := .dfr true) (o' := .deferred none) fun _ _ _ hh => by cases hh
        refine ⟨by simp, .inl ⟨p.r, _, rfl, run_takeDeferred ho', leave_sound hP hS n h (hr.turn hp ⟨hpc, rfl⟩) (hg.ext e1) (ht.mono e1.le) (DR.mono e1.le hd') (he.trans e1)⟩⟩
    · cases h
  | .call f args :: ds, ρ, st, w, dl, h, hr, hg, ht, hd, he => by
    obtain ⟨l', c, A, rfl, hA, hd'⟩ := hd
    rw [show leave P self fn.results.toList e (.call f args :: ds) st = obind (hasBody P f) fun b => ok b (obind (self (.dfn f) args st) fun p => leave P self fn.results.toList e ds p.2) from rfl, obind_eq] at h
    obtain ⟨b, hb, h⟩ := h
    obtain ⟨hbt, h7⟩ := ok_eq.1 h
    subst hbt
    clear h
    rw [obind_eq] at h7
    obtain ⟨⟨v1, st1⟩, hs, h⟩ := h7
    refine ⟨by simp, .inr ⟨fun hh => (by cases hh), .func f, c, f, A ++ c, rfl, callFunc_body hP hb _ _, fun _ _ => trivial, ?_⟩⟩
    refine CallsDIn.mono (hS.dfn f args st v1 st1 hs ρ (A ++ c) w (n - 1) .returning hr hg hA) fun e' u' w' hq => ?_
    obtain ⟨rfl, X, ρ1, rfl, _, r1, e1⟩ := hq
    exact leave_sound hP hS n h r1 (hg.ext e1) (ht.mono e1.le) (DR.mono e1.le hd') (he.trans e1)

theorem callF_sound (hP : PH P xt) {self : Self} (hS : SelfOk P self) {f : FuncId} {args : List V} {st st' : St} {v : V} (h : callF P xt self f args st = some (v, st')) {ρ : Ro} {A : Array Value} {w : World} (n : Nat) (hr : RH P ρ st w.heap) (hg : Gl P ρ st) (ha : VRs ρ args A.toList) :
    CallsIn Fence.wide n P f A w (RetOk P ρ st w v st') := by
  unfold callF at h
  split at h
  · cases h
  · rename_i fn hf
    split at h
    · cases h
    · rename_i c hb
      obtain ⟨h1, h2⟩ := ok_eq.1 h
      have hle : args.length ≤ fn.ntmps := by have := Nat.le_of_ble_eq_true h1; rwa [len_eq] at this
      cases ho : evC P xt c self f false { e := .ofList args, d := [] } st with
      | no => rw [ho] at h2; cases h2
      | out x fr st1 =>
        rw [ho] at h2
        refine callsIn_of_wp_marks hf hb trivial (wpIn_mono (code_sound hP c hS (.inl rfl) n (fun _ => rfl) ho (enter_inv hf hr hg ha hle)) fun e a w1 hq => ?_)
        obtain ⟨rfl, ρ1, hi, he⟩ := hq
        cases x with
        | normal => exact leave_sound hP hS n h2 hi.rh hi.gl hi.tr hi.dr he
        | ret => exact leave_sound hP hS n h2 hi.rh hi.gl hi.tr hi.dr he
        | exit i => cases h2

theorem callD_sound (hP : PH P xt) {self : Self} (hS : SelfOk P self) {f : FuncId} {args : List V} {st st' : St} {v : V} (h : callD P xt self f args st = some (v, st')) {ρ : Ro} {A : Array Value} {w : World} (n : Nat) (u : FrameMode) (hr : RH P ρ st w.heap) (hg : Gl P ρ st) (ha : VRs ρ args A.toList) :
    CallsDIn Fence.wide n P f A u w fun e u' w' => u' = u ∧ RetOk P ρ st w v st' e w' := by
  unfold callD at h
  split at h
  · cases h
  · rename_i fn hf
    split at h
    · cases h
    · rename_i c hb
      obtain ⟨h1, h2⟩ := ok_eq.1 h
      have hle : args.length ≤ fn.ntmps := by have := Nat.le_of_ble_eq_true h1; rwa [len_eq] at this
      cases ho : evC P xt c self f false { e := .ofList args, d := [] } st with
      | no => rw [ho] at h2; cases h2
      | out x fr st1 =>
        rw [ho] at h2
        refine callsDIn_of_wp hf hb trivial (wpIn_mono (code_sound hP c hS (.inl rfl) n (fun _ => rfl) ho (enter_inv hf hr hg ha hle)) fun e a w1 hq => ?_)
        obtain ⟨rfl, ρ1, hi, he⟩ := hq
        have fin : (match fr.d with | [] => Ev.results P fn.results.toList fr.e st1 | _ => none) = some (v, st') → a.defers = [] ∧ ∃ X, (_root_.Go.results fn a.tmps).run P w1 = .ok X w1 ∧ RetOk P ρ st w v st' (.returned X) w1 := by
          intro h3
          have hdr := hi.dr
          split at h3
          · rename_i hd
            rw [hd] at hdr
            obtain ⟨rfl, X, h4, h5⟩ := results_sound hi.rh hi.tr h3
            exact ⟨hdr, X, h4, X, ρ1, rfl, h5, hi.rh, he⟩
          · cases h3
        cases x with
        | normal => exact fin h2
        | ret => exact fin h2
        | exit i => cases h2

theorem psOk_eq {m : Nat} : ∀ {l : List Tmp}, psOk m l = true → ∀ p ∈ l, p < m
  | [], _, p, h => by cases h
  | q :: l, h, p, hp => by
    have h' : sel (Nat.blt q m) (psOk m l) false = true := h
    rw [sel_eq] at h'
    split at h'
    · rename_i hb
      rcases List.mem_cons.1 hp with rfl | hp
      · simpa [Nat.blt_eq] using hb
      · exact psOk_eq h' p hp
    · cases h'
theorem zipPut_sound {ρ : Ro} {m : Nat} : ∀ {ps : List Tmp} {args : List V} {xs : List Value} {e : Env} {t : Array Value}, (∀ p ∈ ps, p < m) → VRs ρ args xs → TR ρ e t → t.size = m →
    TR ρ (zipPut ps args e) ((ps.zip xs).foldl (fun tmps (t, a) => tmps.setIfInBounds t a) t) ∧ ((ps.zip xs).foldl (fun tmps (t, a) => tmps.setIfInBounds t a) t).size = m
  | [], args, xs, e, t, _, _, ht, hs => ⟨ht, hs⟩
  | p :: ps, [], xs, e, t, _, hx, ht, hs => by
    simp only [VRs] at hx
    subst hx
    exact ⟨ht, hs⟩
  | p :: ps, v :: args, xs, e, t, hp, hx, ht, hs => by
    simp only [VRs] at hx
    obtain ⟨y, ys, rfl, h1, h2⟩ := hx
    have := TR.put (a := { tmps := t, defers := [] }) ht hs (dst := some p) (fun d hd => by cases hd; exact hp p (by simp)) h1
    have r := zipPut_sound (ps := ps) (args := args) (xs := ys) (fun q hq => hp q (by simp [hq])) h2 this (by simpa [Act.put] using hs)
    exact r
end
end Go.Ev


/- Rounds; all that the evaluator runs. -/
namespace Go.Ev
section
variable {P : Program} {xt : FuncId → Option XK}

theorem roundF_sound (hP : PH P xt) {self : Self} (hS : SelfOk P self) {id : Nat} {args : List V} {st st' : St} {v : V} (h : roundF P xt self id args st = some (v, st')) {ρ : Ro} {A : Array Value} {w : World} {l : Nat} (n : Nat) (hr : RH P ρ st w.heap) (hg : Gl P ρ st)
    (hy : VR ρ (.yield id) (.func (.yield l) #[] #[])) (ha : VRs ρ args A.toList) :
    ∃ fn tmps assign body, (Instr.yield l A).run P w = .ok (.round l fn tmps assign body) w ∧ RoundIn Fence.wide n P l fn tmps assign body w (RetOk P ρ st w v st') := by
  unfold roundF at h
  rw [obind_eq] at h
  obtain ⟨b, hb, h⟩ := h
  split at h
  · rename_i s0 pend0 fn t ps x y D0
    obtain ⟨h1, h2⟩ := ok_eq.1 h
    obtain ⟨h3, h4⟩ := ok_eq.1 h2
    clear h h2
    have h1 := Nat.eq_of_beq_eq_true h1
    simp only [len_eq] at h1
    have hp : ∃ p, ρ id = some (some p) ∧ p.r = l := by
      simp only [VR] at hy
      rcases hy with ⟨p, hp, he⟩ | ⟨hp, _⟩
      · cases he; exact ⟨p, hp, rfl⟩
      · exact absurd hp (hr.not_gone hb)
    obtain ⟨p, hp, rfl⟩ := hp
    obtain ⟨o, ho, hpc, rr, q, fn', rfl, k1, k2, k3, k4⟩ := hr.block hp hb
    have hlen := ha.len
    refine ⟨fn', _, x, y, run_yield ho (by simp at hlen ⊢; omega), ?_⟩
    have hz := zipPut_sound (psOk_eq h3) ha k4 k3
    refine roundIn_of_wpIn trivial ?_
    have hfold : ((ps.toArray.zip A).foldl (fun tmps (t, a) => tmps.setIfInBounds t a) rr) = ((ps.zip A.toList).foldl (fun tmps (t, a) => tmps.setIfInBounds t a) rr) := by
      rw [← Array.foldl_toList, Array.toList_zip]
    show x.wpIn _ n P _ { tmps := (ps.toArray.zip A).foldl (fun tmps (t, a) => tmps.setIfInBounds t a) rr, defers := [] } w
    rw [hfold]
    have hi0 : Inv P ρ st { e := zipPut ps args t, d := [] } (ntOf P fn) { tmps := (ps.zip A.toList).foldl (fun tmps (t, a) => tmps.setIfInBounds t a) rr, defers := [] } w := ⟨hr, hg, hz.1, hz.2, rfl⟩
    unfold roundBegin at h4
    cases hox : evC P xt x self fn true { e := zipPut ps args t, d := [] } st with
    | no => rw [hox] at h4; cases h4
    | out x1 f1 st1 =>
      rw [hox] at h4
      cases x1 with
      | exit i => cases h4
      | ret => cases h4
      | normal =>
        have h5 : (obind (st1.h.get id) fun b => (match b with
          | .loop s pend fn2 t ps a b D => (match s with
            | .ready => roundEnd id (evC P xt y self fn true f1 (st1.upd id (.loop .busy pend fn2 t ps a b D)))
            | _ => none)
          | _ => none)) = some (v, st') := h4
        rw [obind_eq] at h5
        obtain ⟨b1, hb1, h6⟩ := h5
        split at h6
        · rename_i s1 pend1 fn1 t1 ps1 x1 y1 D1
          cases s1 <;> first | (cases h6; done) | skip
          refine wpIn_mono (code_sound hP x hS (.inr ⟨p.r, rfl⟩) n (r := true) (fun hh => by cases hh) hox hi0) fun e a1 w1 hq => ?_
          obtain ⟨rfl, ρ1, hi1, he1⟩ := hq
          have hp1 := he1.le.stays hp hpc
          obtain ⟨o1, ho1, _, rr1, q1, fn1', rfl, j1, j2, j3, j4⟩ := hi1.rh.block hp1 hb1
          have e2 : Ext ρ1 st1 w1 ρ1 (st1.upd id (.loop .busy pend1 fn1 t1 ps1 x1 y1 D1)) _ := Ext.turn hi1.rh hp1 hb1 (b' := .loop .busy pend1 fn1 t1 ps1 x1 y1 D1) (o' := .loop { state := .busy, pending := pend1, fn := fn1', tmps := rr1, params := ps1.toArray, assign := x1, body := y1, defers := q1.r }) fun _ _ _ hh => by cases hh
          have r2 := hi1.rh.turn (b' := .loop .busy pend1 fn1 t1 ps1 x1 y1 D1) (o' := .loop { state := .busy, pending := pend1, fn := fn1', tmps := rr1, params := ps1.toArray, assign := x1, body := y1, defers := q1.r }) hp1 ⟨hpc, rr1, q1, fn1', rfl, j1, j2, j3, j4⟩
          refine ⟨_, run_beginRound ho1 rfl, ?_⟩
          have hi2 : Inv P ρ1 (st1.upd id (.loop .busy pend1 fn1 t1 ps1 x1 y1 D1)) f1 (ntOf P fn) a1 (w1.putObj p.r (.loop { state := .busy, pending := pend1, fn := fn1', tmps := rr1, params := ps1.toArray, assign := x1, body := y1, defers := q1.r })) :=
            ⟨r2, hi1.gl.ext e2, hi1.tr, hi1.size, hi1.dr⟩
          cases hoy : evC P xt y self fn true f1 (st1.upd id (.loop .busy pend1 fn1 t1 ps1 x1 y1 D1)) with
          | no => rw [hoy] at h6; cases h6
          | out x2 f2 st2 =>
            rw [hoy] at h6
            unfold roundEnd at h6
            simp only at h6
            refine wpIn_mono (code_sound hP y hS (.inr ⟨p.r, rfl⟩) n (r := true) (fun hh => by cases hh) hoy hi2) fun e a2 w2 hq => ?_
            obtain ⟨rfl, ρ2, hi3, he3⟩ := hq
            have hp2 := he3.le.stays hp1 hpc
            have hext := (he1.trans e2).trans he3
            split at h6
            · rw [obind_eq] at h6
              obtain ⟨b2, hb2, h7⟩ := h6
              split at h7
              · rename_i s2 pend2 fn2 t2 ps2 x3 y3 D2
                obtain ⟨o2, ho2, _, rr2, q2, fn2', rfl, i1, i2, i3, i4⟩ := hi3.rh.block hp2 hb2
                cases s2 <;> first | (cases h7; done) | skip
                have fin : ∀ (jump : Option Code) (st4 : St), st4 = st2.upd id (.loop (if jump.isNone then .ready else .done) jump fn2 t2 ps2 x3 y3 D2) → v = .bool jump.isNone → st' = st4 →
                    ∃ v' w', (Instr.endRound p.r jump).run P w2 = .ok v' w' ∧ RetOk P ρ st w v st' (.returned v') w' := by
                  intro jump st4 hst hv hst'
                  subst hst
                  subst hst'
                  subst hv
                  have hrun := run_endRound (P := P) (w := w2) jump ho2
                  have e4 : Ext ρ2 st2 w2 ρ2 (st2.upd id (.loop (if jump.isNone then .ready else .done) jump fn2 t2 ps2 x3 y3 D2)) _ := Ext.turn hi3.rh hp2 hb2 (b' := .loop (if jump.isNone then .ready else .done) jump fn2 t2 ps2 x3 y3 D2) (o' := .loop { state := if jump.isNone then .ready else .done, pending := jump, fn := fn2', tmps := rr2, params := ps2.toArray, assign := x3, body := y3, defers := q2.r }) fun _ _ _ hh => by cases hh
                  exact ⟨_, _, hrun, _, ρ2, rfl, by simp only [VR], hi3.rh.turn hp2 ⟨hpc, rr2, q2, fn2', rfl, i1, i2, i3, i4⟩, hext.trans e4⟩
                cases x2 with
                | normal => cases h7; exact fin none _ rfl rfl rfl
                | ret => cases h7; exact fin (some .ret) _ rfl rfl rfl
                | exit i => cases h7; exact fin (some (.exit i)) _ rfl rfl rfl
              · cases h7
            · cases h6
        · cases h6
  · cases h

theorem run_sound (hP : PH P xt) : ∀ k : Nat, SelfOk P (run P xt k)
  | 0 => ⟨fun _ _ _ _ _ h => (by cases h), fun _ _ _ _ _ h => (by cases h), fun _ _ _ _ _ h => (by cases h)⟩
  | k + 1 => by
    have ih := run_sound hP k
    exact ⟨fun f args st v st' h ρ A w n hr hg ha => callF_sound hP ih h n hr hg ha, fun f args st v st' h ρ A w n u hr hg ha => callD_sound hP ih h n u hr hg ha,
      fun id args st v st' h ρ A w l n hr hg hy ha => roundF_sound hP ih h n hr hg hy ha⟩

/-- what the evaluator says of a call holds of the machine -/
theorem run_calls (hP : PH P xt) {k : Nat} {f : FuncId} {args : List V} {st st' : St} {v : V} (h : run P xt k (.fn f) args st = some (v, st')) {ρ : Ro} {A : Array Value} {w : World} (hr : RH P ρ st w.heap) (hg : Gl P ρ st) (ha : VRs ρ args A.toList) :
    Calls P f A w (RetOk P ρ st w v st') :=
  callsIn_wide (n := 0).1 ((run_sound hP k).fn f args st v st' h ρ A w 0 hr hg ha)
end
end Go.Ev


/- Renaming: a state told by other numbers. -/
namespace Go.Ev
noncomputable section
/-- a value by other numbers -/
def V.ren (θ : Nat → Nat) (v : V) : V := V.rec (motive_1 := fun _ => V) (motive_2 := fun _ => List V)
  (fun b => .bool b) (fun k n => .int k n) (fun s => .str s) (fun id off => .ptr (θ id) off) .nilp
  (fun id off n c sz => .slice (θ id) off n c sz) .nils (fun id => .map (θ id)) .nilm
  (fun f _ _ a b => .func f a b) (fun id => .yield (θ id)) .nilf (fun t _ x => .iface t x) .nili
  (fun _ l => .agg l) (fun _ l => .tup l) [] (fun _ _ a l => a :: l) v
def vren (θ : Nat → Nat) (l : List V) : List V := List.rec [] (fun v _ ih => v.ren θ :: ih) l
def Tr.map (f : V → V) (t : Tr V) : Tr V := Tr.rec .lf (fun _ v _ l r => .nd l (match v with | none => none | some v => some (f v)) r) t
def esren (θ : Nat → Nat) (es : Es) : Es := List.rec [] (fun e _ ih => (e.1.ren θ, e.2.1.ren θ, e.2.2) :: ih) es
def B.ren (θ : Nat → Nat) : B → B
  | .cells z e n t => .cells z e n (t.map (V.ren θ))
  | .map es c => .map (esren θ es) c
  | .siter s p => .siter s p
  | .miter m => .miter (match m with | none => none | some m => some (θ m))
  | .loop s pend fn t ps a b D => .loop s pend fn (t.map (V.ren θ)) ps a b (θ D)
  | .dfr t => .dfr t
end

theorem rec1_vren (θ : Nat → Nat) : ∀ l : List V, V.rec_1 (motive_1 := fun _ => V) (motive_2 := fun _ => List V)
  (fun b => .bool b) (fun k n => .int k n) (fun s => .str s) (fun id off => .ptr (θ id) off) .nilp
  (fun id off n c sz => .slice (θ id) off n c sz) .nils (fun id => .map (θ id)) .nilm
  (fun f _ _ a b => .func f a b) (fun id => .yield (θ id)) .nilf (fun t _ x => .iface t x) .nili
  (fun _ l => .agg l) (fun _ l => .tup l) [] (fun _ _ a l => a :: l) l = vren θ l
  | [] => rfl
  | v :: l => by show _ :: _ = _ :: _; exact congrArg (List.cons _) (rec1_vren θ l)
section
variable (θ : Nat → Nat)
@[simp] theorem ren_bool (b : Bool) : (V.bool b).ren θ = .bool b := rfl
@[simp] theorem ren_int (k : IntKind) (n : Int) : (V.int k n).ren θ = .int k n := rfl
@[simp] theorem ren_str (s : List Nat) : (V.str s).ren θ = .str s := rfl
@[simp] theorem ren_ptr (a b : Nat) : (V.ptr a b).ren θ = .ptr (θ a) b := rfl
@[simp] theorem ren_nilp : V.nilp.ren θ = .nilp := rfl
@[simp] theorem ren_slice (a b c : Nat) (d : Option Nat) (e : Nat) : (V.slice a b c d e).ren θ = .slice (θ a) b c d e := rfl
@[simp] theorem ren_nils : V.nils.ren θ = .nils := rfl
@[simp] theorem ren_map (a : Nat) : (V.map a).ren θ = .map (θ a) := rfl
@[simp] theorem ren_nilm : V.nilm.ren θ = .nilm := rfl
@[simp] theorem ren_func (f : FuncId) (a b : List V) : (V.func f a b).ren θ = .func f (vren θ a) (vren θ b) := by
  show V.func f _ _ = _; rw [rec1_vren, rec1_vren]
@[simp] theorem ren_yield (a : Nat) : (V.yield a).ren θ = .yield (θ a) := rfl
@[simp] theorem ren_nilf : V.nilf.ren θ = .nilf := rfl
@[simp] theorem ren_iface (t : TypeId) (x : V) : (V.iface t x).ren θ = .iface t (x.ren θ) := rfl
@[simp] theorem ren_nili : V.nili.ren θ = .nili := rfl
@[simp] theorem ren_agg (l : List V) : (V.agg l).ren θ = .agg (vren θ l) := by show V.agg _ = _; rw [rec1_vren]
@[simp] theorem ren_tup (l : List V) : (V.tup l).ren θ = .tup (vren θ l) := by show V.tup _ = _; rw [rec1_vren]
@[simp] theorem vren_nil : vren θ [] = [] := rfl
@[simp] theorem vren_cons (v : V) (l : List V) : vren θ (v :: l) = v.ren θ :: vren θ l := rfl
theorem ren_many (v : V) : (v.ren θ).many = v.many := by cases v <;> simp [V.many]
end

mutual
theorem VR_ren (ρ : Ro) (θ : Nat → Nat) : ∀ (v : V) (x : Value), VR (fun i => ρ (θ i)) v x ↔ VR ρ (v.ren θ) x
  | .bool _, _ => by simp [VR]
  | .int _ _, _ => by simp [VR]
  | .str _, _ => by simp [VR]
  | .ptr _ _, _ => by simp [VR]
  | .nilp, _ => by simp [VR]
  | .slice _ _ _ _ _, _ => by simp [VR]
  | .nils, _ => by simp [VR]
  | .map _, _ => by simp [VR]
  | .nilm, _ => by simp [VR]
  | .func f a b, x => by simp only [VR, ren_func, VRs_ren ρ θ a, VRs_ren ρ θ b]
  | .yield _, _ => by simp [VR]
  | .nilf, _ => by simp [VR]
  | .iface t y, x => by simp only [VR, ren_iface, VR_ren ρ θ y]
  | .nili, _ => by simp [VR]
  | .agg l, x => by simp only [VR, ren_agg, VRs_ren ρ θ l]
  | .tup l, x => by simp only [VR, ren_tup, VRs_ren ρ θ l]
theorem VRs_ren (ρ : Ro) (θ : Nat → Nat) : ∀ (l : List V) (m : List Value), VRs (fun i => ρ (θ i)) l m ↔ VRs ρ (vren θ l) m
  | [], m => by simp [VRs]
  | v :: l, m => by simp only [VRs, vren_cons, VR_ren ρ θ v, VRs_ren ρ θ l]
end

mutual
theorem ren_left {φ ψ : Nat → Nat} (h : ∀ i, φ (ψ i) = i) : ∀ v : V, (v.ren ψ).ren φ = v
  | .bool _ => rfl
  | .int _ _ => rfl
  | .str _ => rfl
  | .ptr a b => by simp [h]
  | .nilp => rfl
  | .slice _ _ _ _ _ => by simp [h]
  | .nils => rfl
  | .map _ => by simp [h]
  | .nilm => rfl
  | .func f a b => by simp [vren_left h a, vren_left h b]
  | .yield _ => by simp [h]
  | .nilf => rfl
  | .iface t y => by simp [ren_left h y]
  | .nili => rfl
  | .agg l => by simp [vren_left h l]
  | .tup l => by simp [vren_left h l]
theorem vren_left {φ ψ : Nat → Nat} (h : ∀ i, φ (ψ i) = i) : ∀ l : List V, vren φ (vren ψ l) = l
  | [] => rfl
  | v :: l => by simp [ren_left h v, vren_left h l]
end

theorem Tr.map_nd (f : V → V) (l r : Tr V) (v : Option V) : Tr.map f (.nd l v r) = .nd (Tr.map f l) (v.map f) (Tr.map f r) := by cases v <;> rfl
theorem Tr.getP_map (f : V → V) : ∀ (p : List Bool) (t : Tr V), Tr.getP p (Tr.map f t) = (Tr.getP p t).map f
  | p, .lf => by rw [show Tr.map f .lf = .lf from rfl, Tr.getP_lf]; rfl
  | [], .nd l v r => by rw [Tr.map_nd]; rfl
  | b :: p, .nd l v r => by
    rw [Tr.map_nd, Tr.getP_cons, Tr.getP_cons]
    cases b
    · exact Tr.getP_map f p l
    · exact Tr.getP_map f p r
theorem Tr.get_map (f : V → V) (t : Tr V) (i : Nat) : (Tr.map f t).get i = (t.get i).map f := Tr.getP_map f _ t
theorem Tr.map_left {f g : V → V} (h : ∀ v, f (g v) = v) : ∀ t : Tr V, Tr.map f (Tr.map g t) = t
  | .lf => rfl
  | .nd l v r => by
    rw [Tr.map_nd, Tr.map_nd, Tr.map_left h l, Tr.map_left h r]
    cases v with
    | none => rfl
    | some v => simp [h]
@[simp] theorem esren_nil (θ : Nat → Nat) : esren θ [] = [] := rfl
@[simp] theorem esren_cons (θ : Nat → Nat) (e : V × V × Nat) (l : Es) : esren θ (e :: l) = (e.1.ren θ, e.2.1.ren θ, e.2.2) :: esren θ l := rfl
theorem esren_left {φ ψ : Nat → Nat} (h : ∀ i, φ (ψ i) = i) : ∀ l : Es, esren φ (esren ψ l) = l
  | [] => rfl
  | e :: l => by simp [ren_left h, esren_left h l]
theorem B.ren_left {φ ψ : Nat → Nat} (h : ∀ i, φ (ψ i) = i) (b : B) : (b.ren ψ).ren φ = b := by
  cases b with
  | cells z e n t => simp only [B.ren, Tr.map_left (Go.Ev.ren_left h)]
  | map es c => simp only [B.ren, esren_left h]
  | siter s p => rfl
  | miter m => cases m <;> simp [B.ren, h]
  | loop s pend fn t ps a b D => simp only [B.ren, Tr.map_left (Go.Ev.ren_left h), h]
  | dfr t => rfl

section
variable {P : Program} {ρ : Ro} {θ : Nat → Nat}
theorem EsR_ren : ∀ (es : Es) (l : List MapEntry), EsR (fun i => ρ (θ i)) es l ↔ EsR ρ (esren θ es) l
  | [], l => by simp [EsR]
  | e :: es, l => by simp only [EsR, esren_cons, VR_ren ρ θ, EsR_ren es]
theorem BR_ren {p : Pl} {b : B} {o : Obj} : BR P (fun i => ρ (θ i)) p b o ↔ BR P ρ p (b.ren θ) o := by
  cases b with
  | cells z e n t =>
    simp only [BR, B.ren]
    have key : ∀ c : Array Value, (∀ i v, i < n → t.get i = some v → v.many = false ∧ ∃ x, c[p.o + i]? = some x ∧ VR (fun i => ρ (θ i)) v x) ↔ (∀ i v, i < n → (Tr.map (V.ren θ) t).get i = some v → v.many = false ∧ ∃ x, c[p.o + i]? = some x ∧ VR ρ v x) := by
      intro c
      constructor
      · intro h i v hi hv
        rw [Tr.get_map, Option.map_eq_some_iff] at hv
        obtain ⟨u, hu, rfl⟩ := hv
        obtain ⟨h1, x, h2, h3⟩ := h i u hi hu
        exact ⟨by rw [ren_many]; exact h1, x, h2, (VR_ren ρ θ u x).1 h3⟩
      · intro h i v hi hv
        obtain ⟨h1, x, h2, h3⟩ := h i (v.ren θ) hi (by rw [Tr.get_map, hv]; rfl)
        exact ⟨by rw [ren_many] at h1; exact h1, x, h2, (VR_ren ρ θ v x).2 h3⟩
    simp only [key]
  | map es c => simp only [BR, B.ren, EsR_ren]
  | siter s pos => exact Iff.rfl
  | miter m => cases m <;> exact Iff.rfl
  | loop s pend fn t ps a b D =>
    simp only [BR, B.ren]
    have key : ∀ r : Array Value, TR (fun i => ρ (θ i)) t r ↔ TR ρ (Tr.map (V.ren θ) t) r := by
      intro r
      constructor
      · intro h i v hv
        rw [Tr.get_map, Option.map_eq_some_iff] at hv
        obtain ⟨u, hu, rfl⟩ := hv
        obtain ⟨x, h2, h3⟩ := h i u hu
        exact ⟨x, h2, (VR_ren ρ θ u x).1 h3⟩
      · intro h i v hv
        obtain ⟨x, h2, h3⟩ := h i (v.ren θ) (by rw [Tr.get_map, hv]; rfl)
        exact ⟨x, h2, (VR_ren ρ θ v x).2 h3⟩
    simp only [key]
  | dfr t => exact Iff.rfl
end
end Go.Ev


/- Summaries: what is checked of them, and what they are worth. -/
namespace Go.Ev
noncomputable section
def oidEq (a b : Option TypeId) : Bool := match a with | none => (match b with | none => true | some _ => false) | some x => (match b with | none => false | some y => Nat.beq x y)
def fzEq (a b : Fz) : Bool := match a with
  | .free => (match b with | .free => true | _ => false)
  | .str => (match b with | .str => true | _ => false)
  | .ro => (match b with | .ro => true | _ => false)
  | .gl => (match b with | .gl => true | _ => false)
def ovEq (a b : Option V) : Bool := match a with | none => (match b with | none => true | some _ => false) | some x => (match b with | none => false | some y => veq 8 x y)
def trEq (t : Tr V) : Tr V → Bool := Tr.rec (motive := fun _ => Tr V → Bool) (fun u => match u with | .lf => true | .nd _ _ _ => false)
  (fun _ v _ il ir u => match u with | .lf => false | .nd l' v' r' => sel (ovEq v v') (sel (il l') (ir r') false) false) t
def esEq (es : Es) : Es → Bool := List.rec (motive := fun _ => Es → Bool) (fun m => match m with | [] => true | _ => false)
  (fun e _ ih m => match m with | [] => false | x :: m => sel (veq 8 e.1 x.1) (sel (veq 8 e.2.1 x.2.1) (sel (Nat.beq e.2.2 x.2.2) (ih m) false) false) false) es
def bEq (a b : B) : Bool := match a with
  | .cells z e n t => (match b with | .cells z' e' n' t' => sel (fzEq z z') (sel (oidEq e e') (sel (Nat.beq n n') (trEq t t') false) false) false | _ => false)
  | .map es c => (match b with | .map es' c' => sel (Nat.beq c c') (esEq es es') false | _ => false)
  | _ => false
def bEqO (a b : Option B) : Bool := match a with | none => (match b with | none => true | some _ => false) | some x => (match b with | none => false | some y => bEq x y)
def renO (θ : Nat → Nat) (b : Option B) : Option B := match b with | none => none | some b => some (b.ren θ)

def stOf (l : List B) : St := { next := len l, h := .ofList l }
/-- the blocks by number: laid, or taken away -/
def putB (θ : Nat → Nat) (i : Nat) (t : Tr B) (b : Option B) : Tr B := match b with | none => t.del (θ i) | some b => t.set (θ i) (b.ren θ)
def putsO (θ : Nat → Nat) (l : List (Option B)) : Nat → Tr B → Tr B :=
  List.rec (motive := fun _ => Nat → Tr B → Tr B) (fun _ t => t) (fun b _ ih i t => ih (Nat.add i 1) (putB θ i t b)) l
def setB (i : Nat) (t : Tr B) (b : Option B) : Tr B := match b with | none => t | some b => t.set i b
def fillO (l : List (Option B)) : Nat → Tr B → Tr B :=
  List.rec (motive := fun _ => Nat → Tr B → Tr B) (fun _ t => t) (fun b _ ih i t => ih (Nat.add i 1) (setB i t b)) l
def stOfO (l : List (Option B)) : St := { next := len l, h := fillO l 0 .lf }

/-- what a call does: its arguments, the blocks that they reach, what it hands back, and what there is then -/
structure Sm where
  f : FuncId
  args : List V
  pre : List B
  v : V
  post : List (Option B)
/-- a use of it: at which number of blocks, and what its blocks' numbers are there -/
structure Us where
  s : Sm
  N : Nat
  th : List Nat
def thN (th : List Nat) (N : Nat) (i : Nat) : Nat := match nth i th with | some j => j | none => Nat.sub (Nat.add N i) (len th)
def hasAll (st : St) (θ : Nat → Nat) (l : List B) : Nat → Bool :=
  List.rec (motive := fun _ => Nat → Bool) (fun _ => true) (fun b _ ih i => sel (bEqO (st.h.get (θ i)) (some (b.ren θ))) (ih (Nat.add i 1)) false) l
def hasAllO (st : St) (θ : Nat → Nat) (l : List (Option B)) : Nat → Bool :=
  List.rec (motive := fun _ => Nat → Bool) (fun _ => true) (fun b _ ih i => sel (bEqO (st.h.get (θ i)) (renO θ b)) (ih (Nat.add i 1)) false) l
def nodupN (l : List Nat) : Bool := List.rec true (fun x m ih => sel (hasN x m) false ih) l
def allLt (l : List Nat) (n : Nat) : Bool := List.rec true (fun x _ ih => sel (Nat.blt x n) ih false) l
def allGe (l : List Nat) (n : Nat) : Bool := List.rec true (fun x _ ih => sel (Nat.ble n x) ih false) l
def firstOk (n : Nat) (th : List Nat) : Bool := Nat.rec true (fun g ih => sel (match nth g th with | some j => Nat.beq j g | none => false) ih false) n
def Us.go2 (P : Program) (u : Us) (θ : Nat → Nat) (args : List V) (st : St) : Res :=
  ok (veqs (veq 8) args (vren θ u.s.args)) (ok (hasAll st θ u.s.pre 0) (ok (nodupN u.th) (ok (allLt u.th u.N) (ok (Nat.beq (len u.th) (len u.s.pre)) (ok (firstOk P.globals.size u.th)
    (ok (Nat.ble (len u.s.pre) (len u.s.post)) (some (u.s.v.ren θ, { next := Nat.sub (Nat.add u.N (len u.s.post)) (len u.s.pre), h := putsO θ u.s.post 0 st.h }))))))))
def Us.go (P : Program) (u : Us) (args : List V) (st : St) : Res := ok (Nat.beq st.next u.N) (u.go2 P (thN u.th u.N) args st)
def withTab (P : Program) (tab : List Us) (self : Self) : Self := fun t args st => match t with
  | .fn f => List.rec (self (.fn f) args st) (fun u _ ih => sel (Nat.beq f u.s.f) (sel (Nat.beq st.next u.N) (u.go P args st) ih) ih) tab
  | .dfn f => self (.dfn f) args st
  | .round id => self (.round id) args st
/-- the evaluator with summaries -/
def runT (P : Program) (xt : FuncId → Option XK) (tab : List Us) (n : Nat) : Self :=
  Nat.rec (motive := fun _ => Self) (fun _ _ _ => none) (fun _ ih => evT P xt (withTab P tab ih)) n

def psN (n0 : Nat) (ps : List Nat) (N1 : Nat) (i : Nat) : Nat := sel (Nat.blt i n0) i (match nth (Nat.sub i n0) ps with | some j => j | none => Nat.add N1 i)
def sameAll (θ : Nat → Nat) (l : List B) : Bool := List.rec true (fun b _ ih => sel (bEq (b.ren θ) b) ih false) l
def Sm.fin2 (s : Sm) (ps : List Nat) (θ : Nat → Nat) (v1 : V) (st1 : St) : Bool :=
  sel (veq 8 v1 (s.v.ren θ)) (sel (hasAllO st1 θ s.post 0) (sel (sameAll θ s.pre) (sel (nodupN ps) (sel (allLt ps st1.next) (sel (allGe ps (len s.pre)) (Nat.beq (len s.post) (Nat.add (len s.pre) (len ps))) false) false) false) false) false) false
def Sm.fin (s : Sm) (ps : List Nat) (r : Res) : Bool := match r with
  | none => false
  | some p => s.fin2 ps (psN (len s.pre) ps p.2.next) p.1 p.2
def Sm.check (P : Program) (xt : FuncId → Option XK) (tab : List Us) (k : Nat) (s : Sm) (ps : List Nat) : Bool :=
  s.fin ps (runT P xt tab k (.fn s.f) s.args (stOf s.pre))
end

/-- a summary that holds -/
def Sm.Valid (P : Program) (s : Sm) : Prop := ∀ (ρ : Ro) (A : Array Value) (w : World) (n : Nat), RH P ρ (stOf s.pre) w.heap → Gl P ρ (stOf s.pre) → VRs ρ s.args A.toList →
  CallsIn Fence.wide n P s.f A w (RetOk P ρ (stOf s.pre) w s.v (stOfO s.post))

theorem oidEq_eq {a b : Option TypeId} (h : oidEq a b = true) : a = b := by
  cases a <;> cases b <;> first | rfl | (cases h; done) | (have := Nat.eq_of_beq_eq_true h; rw [this])
theorem fzEq_eq {a b : Fz} (h : fzEq a b = true) : a = b := by cases a <;> cases b <;> first | rfl | cases h
theorem ovEq_eq {a b : Option V} (h : ovEq a b = true) : a = b := by
  cases a <;> cases b <;> first | rfl | (cases h; done) | (have := veq_sound 8 _ _ h; rw [this])
theorem sel_false_eq {b x : Bool} : sel b x false = true ↔ b = true ∧ x = true := by cases b <;> simp [sel]
theorem trEq_eq : ∀ {t u : Tr V}, trEq t u = true → t = u
  | .lf, .lf, _ => rfl
  | .lf, .nd _ _ _, h => by cases h
  | .nd _ _ _, .lf, h => by cases h
  | .nd l v r, .nd l' v' r', h => by
    obtain ⟨h1, h2⟩ := sel_false_eq.1 (show sel (ovEq v v') (sel (trEq l l') (trEq r r') false) false = true from h)
    obtain ⟨h3, h4⟩ := sel_false_eq.1 h2
    rw [trEq_eq h3, ovEq_eq h1, trEq_eq h4]
theorem esEq_eq : ∀ {l m : Es}, esEq l m = true → l = m
  | [], [], _ => rfl
  | [], _ :: _, h => by cases h
  | _ :: _, [], h => by cases h
  | (a, b, c) :: l, (a', b', c') :: m, h => by
    obtain ⟨h1, h2⟩ := sel_false_eq.1 (show sel (veq 8 a a') (sel (veq 8 b b') (sel (Nat.beq c c') (esEq l m) false) false) false = true from h)
    obtain ⟨h3, h4⟩ := sel_false_eq.1 h2
    obtain ⟨h5, h6⟩ := sel_false_eq.1 h4
    rw [veq_sound 8 _ _ h1, veq_sound 8 _ _ h3, Nat.eq_of_beq_eq_true h5, esEq_eq h6]
theorem bEq_eq {a b : B} (h : bEq a b = true) : a = b := by
  cases a <;> cases b <;> first | (cases h; done) | skip
  · obtain ⟨h1, h2⟩ := sel_false_eq.1 h
    obtain ⟨h3, h4⟩ := sel_false_eq.1 h2
    obtain ⟨h5, h6⟩ := sel_false_eq.1 h4
    rw [fzEq_eq h1, oidEq_eq h3, Nat.eq_of_beq_eq_true h5, trEq_eq h6]
  · obtain ⟨h1, h2⟩ := sel_false_eq.1 h
    rw [Nat.eq_of_beq_eq_true h1, esEq_eq h2]
theorem bEqO_eq {a b : Option B} (h : bEqO a b = true) : a = b := by
  cases a <;> cases b <;> first | rfl | (cases h; done) | (have := bEq_eq h; rw [this])

theorem renO_eq (θ : Nat → Nat) (b : Option B) : renO θ b = b.map (B.ren θ) := by cases b <;> rfl
theorem hasAll_eq {st : St} {θ : Nat → Nat} : ∀ {l : List B} {i : Nat}, hasAll st θ l i = true → ∀ j b, l[j]? = some b → st.h.get (θ (i + j)) = some (b.ren θ)
  | [], _, _, j, b, hb => by simp at hb
  | x :: l, i, h, j, b, hb => by
    obtain ⟨h1, h2⟩ := sel_false_eq.1 (show sel (bEqO (st.h.get (θ i)) (some (x.ren θ))) (hasAll st θ l (i + 1)) false = true from h)
    cases j with
    | zero => simp at hb; subst hb; exact bEqO_eq h1
    | succ j => have := hasAll_eq h2 j b (by simpa using hb); rwa [show i + 1 + j = i + (j + 1) by omega] at this
theorem hasAllO_eq {st : St} {θ : Nat → Nat} : ∀ {l : List (Option B)} {i : Nat}, hasAllO st θ l i = true → ∀ j b, l[j]? = some b → st.h.get (θ (i + j)) = b.map (B.ren θ)
  | [], _, _, j, b, hb => by simp at hb
  | x :: l, i, h, j, b, hb => by
    obtain ⟨h1, h2⟩ := sel_false_eq.1 (show sel (bEqO (st.h.get (θ i)) (renO θ x)) (hasAllO st θ l (i + 1)) false = true from h)
    cases j with
    | zero => simp at hb; subst hb; rw [← renO_eq]; exact bEqO_eq h1
    | succ j => have := hasAllO_eq h2 j b (by simpa using hb); rwa [show i + 1 + j = i + (j + 1) by omega] at this
theorem hasN_eq {t : Nat} : ∀ {l : List Nat}, hasN t l = true ↔ t ∈ l
  | [] => by constructor <;> intro h <;> cases h
  | x :: l => by
    show sel (Nat.beq x t) true (hasN t l) = true ↔ _
    rw [List.mem_cons, ← hasN_eq (l := l)]
    cases hx : Nat.beq x t with
    | true => simp [Nat.eq_of_beq_eq_true hx]
    | false =>
      have : t ≠ x := fun e => by subst e; rw [Nat.beq_refl] at hx; cases hx
      simp [this]
theorem nodupN_eq : ∀ {l : List Nat}, nodupN l = true → l.Nodup
  | [], _ => List.nodup_nil
  | x :: l, h => by
    have h' : sel (hasN x l) false (nodupN l) = true := h
    cases hx : hasN x l with
    | true => rw [hx] at h'; cases h'
    | false =>
      rw [hx] at h'
      exact List.nodup_cons.2 ⟨fun hm => (by rw [hasN_eq.2 hm] at hx; cases hx), nodupN_eq h'⟩
theorem blt_lt {a b : Nat} (h : Nat.blt a b = true) : a < b := Nat.le_of_ble_eq_true h
theorem allLt_eq {n : Nat} : ∀ {l : List Nat}, allLt l n = true → ∀ x ∈ l, x < n
  | [], _, x, hx => by cases hx
  | y :: l, h, x, hx => by
    obtain ⟨h1, h2⟩ := sel_false_eq.1 (show sel (Nat.blt y n) (allLt l n) false = true from h)
    rcases List.mem_cons.1 hx with e | hx
    · rw [e]; exact blt_lt h1
    · exact allLt_eq h2 x hx
theorem allGe_eq {n : Nat} : ∀ {l : List Nat}, allGe l n = true → ∀ x ∈ l, n ≤ x
  | [], _, x, hx => by cases hx
  | y :: l, h, x, hx => by
    obtain ⟨h1, h2⟩ := sel_false_eq.1 (show sel (Nat.ble n y) (allGe l n) false = true from h)
    rcases List.mem_cons.1 hx with e | hx
    · rw [e]; exact Nat.le_of_ble_eq_true h1
    · exact allGe_eq h2 x hx
theorem firstOk_eq {th : List Nat} : ∀ {n : Nat}, firstOk n th = true → ∀ g, g < n → th[g]? = some g
  | 0, _, g, hg => by omega
  | n + 1, h, g, hg => by
    obtain ⟨h1, h2⟩ := sel_false_eq.1 (show sel (match nth n th with | some j => Nat.beq j n | none => false) (firstOk n th) false = true from h)
    by_cases hgn : g = n
    · subst hgn
      rw [nth_eq] at h1
      cases hj : th[g]? with
      | none => rw [hj] at h1; cases h1
      | some j => rw [hj] at h1; rw [Nat.eq_of_beq_eq_true h1]
    · exact firstOk_eq h2 g (by omega)
theorem sameAll_eq {θ : Nat → Nat} : ∀ {l : List B}, sameAll θ l = true → ∀ (i : Nat) b, l[i]? = some b → b.ren θ = b
  | [], _, i, b, hb => by simp at hb
  | x :: l, h, i, b, hb => by
    obtain ⟨h1, h2⟩ := sel_false_eq.1 (show sel (bEq (x.ren θ) x) (sameAll θ l) false = true from h)
    cases i with
    | zero => simp at hb; subst hb; exact bEq_eq h1
    | succ i => exact sameAll_eq h2 i b (by simpa using hb)

theorem stOf_next (l : List B) : (stOf l).next = l.length := len_eq l
theorem stOf_get (l : List B) (i : Nat) : (stOf l).h.get i = l[i]? := Tr.get_ofList l i
theorem putB_get (θ : Nat → Nat) (i : Nat) (t : Tr B) (b : Option B) (k : Nat) : (putB θ i t b).get k = if θ i = k then b.map (B.ren θ) else t.get k := by
  cases b with
  | none => exact Tr.get_del _ _ _
  | some b => exact Tr.get_set _ _ _ _
theorem setB_get (i : Nat) (t : Tr B) (b : Option B) (k : Nat) : (setB i t b).get k = if i = k then b.or (t.get k) else t.get k := by
  cases b with
  | none => simp [setB]
  | some b => exact Tr.get_set _ _ _ _
theorem putsO_get {θ : Nat → Nat} : ∀ (l : List (Option B)) (i : Nat) (t : Tr B), (∀ a b, i ≤ a → i ≤ b → θ a = θ b → a = b) →
    (∀ j b, l[j]? = some b → (putsO θ l i t).get (θ (i + j)) = b.map (B.ren θ)) ∧ (∀ k, (∀ j, j < l.length → θ (i + j) ≠ k) → (putsO θ l i t).get k = t.get k)
  | [], i, t, _ => ⟨fun j b hb => by simp at hb, fun k _ => rfl⟩
  | x :: l, i, t, hi => by
    have e : putsO θ (x :: l) i t = putsO θ l (i + 1) (putB θ i t x) := rfl
    rw [e]
    obtain ⟨h1, h2⟩ := putsO_get l (i + 1) (putB θ i t x) (fun a b ha hb => hi a b (by omega) (by omega))
    refine ⟨fun j b hb => ?_, fun k hk => ?_⟩
    · cases j with
      | zero =>
        simp at hb
        subst hb
        show (putsO θ l (i + 1) (putB θ i t x)).get (θ i) = _
        rw [h2 (θ i) (fun j hj hh => by have := hi _ _ (by omega) (by omega) hh; omega), putB_get, if_pos rfl]
      | succ j => have := h1 j b (by simpa using hb); rwa [show i + 1 + j = i + (j + 1) by omega] at this
    · rw [h2 k fun j hj => by have := hk (j + 1) (by simpa using hj); rwa [show i + (j + 1) = i + 1 + j by omega] at this]
      have h0 : θ i ≠ k := by have := hk 0 (by simp); simpa using this
      rw [putB_get, if_neg h0]
theorem fillO_get : ∀ (l : List (Option B)) (i : Nat) (t : Tr B) (k : Nat), (fillO l i t).get k = if i ≤ k ∧ k < i + l.length then (l[k - i]?.join).or (t.get k) else t.get k
  | [], i, t, k => by
    show t.get k = _
    rw [if_neg (by simp)]
  | x :: l, i, t, k => by
    have e : fillO (x :: l) i t = fillO l (i + 1) (setB i t x) := rfl
    rw [e, fillO_get l (i + 1), setB_get]
    by_cases hk : i = k
    · subst hk
      rw [if_neg (by omega), if_pos rfl, if_pos (by simp)]
      simp
    · by_cases h1 : i + 1 ≤ k ∧ k < i + 1 + l.length
      · obtain ⟨d, rfl⟩ : ∃ d, k = i + 1 + d := ⟨k - (i + 1), by omega⟩
        have h2 : i ≤ i + 1 + d ∧ i + 1 + d < i + (x :: l).length := ⟨by omega, by simp; omega⟩
        rw [if_pos h1, if_neg hk, if_pos h2, show i + 1 + d - (i + 1) = d by omega, show i + 1 + d - i = d + 1 by omega]
        simp
      · rw [if_neg h1, if_neg hk, if_neg (by simp; omega)]
theorem stOfO_get (l : List (Option B)) (i : Nat) : (stOfO l).h.get i = l[i]?.join := by
  show (fillO l 0 .lf).get i = _
  rw [fillO_get]
  by_cases h : i < l.length
  · rw [if_pos ⟨by omega, by omega⟩]; simp
  · rw [if_neg (by omega), List.getElem?_eq_none (by omega)]; simp
theorem stOfO_next (l : List (Option B)) : (stOfO l).next = l.length := len_eq l
end Go.Ev


/- Summaries are worth what they say: at every use; and a checked one holds. -/
namespace Go.Ev
section
variable {P : Program} {xt : FuncId → Option XK}

theorem thN_lt {th : List Nat} {N i j : Nat} (h : th[i]? = some j) : thN th N i = j := by unfold thN; rw [nth_eq, h]
theorem thN_ge {th : List Nat} {N i : Nat} (h : th.length ≤ i) : thN th N i = N + (i - th.length) := by
  unfold thN
  rw [nth_eq, List.getElem?_eq_none h, len_eq]
  show N + i - th.length = _
  omega
theorem thN_inj {th : List Nat} {N : Nat} (hn : th.Nodup) (hl : ∀ x ∈ th, x < N) {a b : Nat} (h : thN th N a = thN th N b) : a = b := by
  by_cases ha : a < th.length
  · have e1 : th[a]? = some th[a] := List.getElem?_eq_getElem ha
    rw [thN_lt e1] at h
    by_cases hb : b < th.length
    · have e2 : th[b]? = some th[b] := List.getElem?_eq_getElem hb
      rw [thN_lt e2] at h
      exact (List.getElem_inj hn).1 h
    · rw [thN_ge (by omega)] at h
      have := hl th[a] (List.getElem_mem ha)
      omega
  · rw [thN_ge (by omega)] at h
    by_cases hb : b < th.length
    · have e2 : th[b]? = some th[b] := List.getElem?_eq_getElem hb
      rw [thN_lt e2] at h
      have := hl th[b] (List.getElem_mem hb)
      omega
    · rw [thN_ge (by omega)] at h
      omega

open Classical in
/-- where blocks lie behind a call, told by the caller's numbers -/
noncomputable def back (θ : Nat → Nat) (ρ' ρ : Ro) : Ro := fun j => if h : ∃ i, θ i = j then ρ' (Classical.choose h) else ρ j
theorem back_in {θ : Nat → Nat} (hi : ∀ a b, θ a = θ b → a = b) (ρ' ρ : Ro) (i : Nat) : back θ ρ' ρ (θ i) = ρ' i := by
  have h : ∃ k, θ k = θ i := ⟨i, rfl⟩
  unfold back
  rw [dif_pos h, hi _ _ (Classical.choose_spec h)]
theorem back_out {θ : Nat → Nat} (ρ' ρ : Ro) {j : Nat} (h : ∀ i, θ i ≠ j) : back θ ρ' ρ j = ρ j := by
  unfold back
  rw [dif_neg (by rintro ⟨i, hi⟩; exact h i hi)]

theorem Us.go_eq {u : Us} {args : List V} {st st' : St} {v : V} (h : u.go P args st = some (v, st')) :
    st.next = u.N ∧ args = vren (thN u.th u.N) u.s.args ∧ (∀ j b, u.s.pre[j]? = some b → st.h.get (thN u.th u.N j) = some (b.ren (thN u.th u.N))) ∧ u.th.Nodup ∧ (∀ x ∈ u.th, x < u.N) ∧
    u.th.length = u.s.pre.length ∧ (∀ g, g < P.globals.size → u.th[g]? = some g) ∧ u.s.pre.length ≤ u.s.post.length ∧ v = u.s.v.ren (thN u.th u.N) ∧
    st' = { next := st.next + (u.s.post.length - u.th.length), h := putsO (thN u.th u.N) u.s.post 0 st.h } := by
  unfold Us.go at h
  obtain ⟨h1, h2⟩ := ok_eq.1 h
  unfold Us.go2 at h2
  obtain ⟨k1, h3⟩ := ok_eq.1 h2
  obtain ⟨k2, h4⟩ := ok_eq.1 h3
  obtain ⟨k3, h5⟩ := ok_eq.1 h4
  obtain ⟨k4, h6⟩ := ok_eq.1 h5
  obtain ⟨k5, h7⟩ := ok_eq.1 h6
  obtain ⟨k6, h8⟩ := ok_eq.1 h7
  obtain ⟨k7, h9⟩ := ok_eq.1 h8
  have j1 := Nat.eq_of_beq_eq_true h1
  have j5 := Nat.eq_of_beq_eq_true k5
  rw [len_eq, len_eq] at j5
  have j7 := Nat.le_of_ble_eq_true k7
  rw [len_eq, len_eq] at j7
  have j2 := hasAll_eq k2
  simp only [Nat.zero_add] at j2
  cases h9
  refine ⟨j1, veqs_sound (veq_sound 8) k1, j2, nodupN_eq k3, allLt_eq k4, j5, firstOk_eq k6, j7, rfl, ?_⟩
  have hnx : Nat.sub (Nat.add u.N (len u.s.post)) (len u.s.pre) = st.next + (u.s.post.length - u.th.length) := by
    rw [len_eq, len_eq, j1]; show u.N + _ - _ = _; omega
  rw [hnx]

theorem Us.go_sound {u : Us} (hv : u.s.Valid P) {args : List V} {st st' : St} {v : V} (h : u.go P args st = some (v, st')) (ρ : Ro) (A : Array Value) (w : World) (n : Nat)
    (hr : RH P ρ st w.heap) (hg : Gl P ρ st) (ha : VRs ρ args A.toList) : CallsIn Fence.wide n P u.s.f A w (RetOk P ρ st w v st') := by
  obtain ⟨h1, k1, k2, k3, k4, k5, k6, k7, e1, e2⟩ := Us.go_eq h
  clear h
  have hinj : ∀ a b, thN u.th u.N a = thN u.th u.N b → a = b := fun a b hab => thN_inj k3 k4 hab
  have hθ : thN u.th u.N = thN u.th u.N := rfl
  revert hθ hinj k1 k2 e1 e2
  generalize hθ0 : thN u.th u.N = θ
  intro k1 k2 e1 e2 hinj hθ1
  have hθ : thN u.th u.N = θ := hθ0
  clear hθ1 hθ0
  have hge : ∀ i, u.th.length ≤ i → θ i = st.next + (i - u.th.length) := fun i hi => by rw [← hθ, h1]; exact thN_ge hi
  have hlt : ∀ i, i < u.th.length → θ i < st.next := fun i hi => by
    rw [← hθ, h1, thN_lt (List.getElem?_eq_getElem hi)]; exact k4 _ (List.getElem_mem hi)
  have hge' : ∀ j, st.next ≤ j → ∃ i, θ i = j := fun j hj => ⟨u.th.length + (j - st.next), by rw [hge _ (by omega)]; omega⟩
  subst k1
  subst e1
  subst e2
  obtain ⟨q1, q2⟩ := putsO_get u.s.post 0 st.h (fun a b _ _ hab => hinj a b hab)
  simp only [Nat.zero_add] at q1 q2
  generalize hH : putsO θ u.s.post 0 st.h = H at q1 q2 ⊢
  -- the caller's world as the summary sees it
  have r0 : RH P (fun i => ρ (θ i)) (stOf u.s.pre) w.heap := by
    have low : ∀ i x, ρ (θ i) = some x → i < u.th.length := fun i x hx => by
      refine Classical.byContradiction fun hc => ?_
      rw [hge i (by omega), hr.none_of_ge (by omega)] at hx
      cases hx
    refine ⟨fun i p hp => ?_, fun i hp => ?_, fun i j p q hp hq e => hinj _ _ (hr.inj _ _ p q hp hq e)⟩
    · have hi := low i _ hp
      obtain ⟨_, b, o, hb, ho, hB⟩ := hr.at' _ p hp
      have e1 : u.s.pre[i]? = some u.s.pre[i] := List.getElem?_eq_getElem (by omega)
      rw [k2 i _ e1] at hb
      cases hb
      exact ⟨by rw [stOf_next]; omega, _, o, by rw [stOf_get]; exact e1, ho, BR_ren.2 hB⟩
    · have hi := low i _ hp
      have e1 : u.s.pre[i]? = some u.s.pre[i] := List.getElem?_eq_getElem (by omega)
      have := (hr.gone _ hp).2
      rw [k2 i _ e1] at this
      cases this
  have g0 : Gl P (fun i => ρ (θ i)) (stOf u.s.pre) := fun g hgl => by
    obtain ⟨p, e, m, t, h3, h4, h5, h6⟩ := hg g hgl
    have hk := k6 g hgl
    have hlg : g < u.th.length := (List.getElem?_eq_some_iff.1 hk).1
    have eg : θ g = g := by rw [← hθ]; exact thN_lt hk
    have e1 : u.s.pre[g]? = some u.s.pre[g] := List.getElem?_eq_getElem (by omega)
    have h7 := k2 g _ e1
    rw [eg, h6] at h7
    refine ⟨p, ?_⟩
    cases hb : u.s.pre[g] with
    | cells z e' m' t' =>
      rw [hb] at h7
      simp only [B.ren, Option.some.injEq, B.cells.injEq] at h7
      obtain ⟨rfl, rfl, rfl, _⟩ := h7
      exact ⟨e, m, t', by show ρ (θ g) = _; rw [eg]; exact h3, h4, h5, by rw [stOf_get, e1, hb]⟩
    | _ => rw [hb] at h7; simp [B.ren] at h7
  refine (hv (fun i => ρ (θ i)) A w n r0 g0 ((VRs_ren ρ θ _ _).2 ha)).mono fun e w' hq => ?_
  obtain ⟨X, ρ', rfl, hX, r1, x1⟩ := hq
  have bi : ∀ i, back θ ρ' ρ (θ i) = ρ' i := back_in hinj ρ' ρ
  have hfun : (fun i => back θ ρ' ρ (θ i)) = ρ' := funext bi
  have st1 : ∀ i, i < u.s.post.length → H.get (θ i) = ((stOfO u.s.post).h.get i).map (B.ren θ) := fun i hi => by
    have e1 : u.s.post[i]? = some u.s.post[i] := List.getElem?_eq_getElem hi
    rw [q1 i _ e1, stOfO_get, e1]; rfl
  have out1 : ∀ j, (∀ i, θ i ≠ j) → H.get j = st.h.get j := fun j hj => q2 j fun i _ => hj i
  have top1 : ∀ i x, ρ' i = some x → i < u.s.post.length := fun i x hx => by
    cases x with
    | none => have := (r1.gone i hx).1; rwa [stOfO_next] at this
    | some p => have := (r1.at' i p hx).1; rwa [stOfO_next] at this
  -- a block that the call does not see stays
  have away : ∀ j p, (∀ i, θ i ≠ j) → ρ j = some (some p) → w'.heap[p.r]? = w.heap[p.r]? ∧ ∀ i q, ρ' i = some (some q) → q.r ≠ p.r := fun j p hj hp => by
    obtain ⟨_, b, o, hb, ho, _⟩ := hr.at' j p hp
    have hlt : p.r < w.heap.size := (Array.getElem?_eq_some_iff.1 ho).1
    obtain ⟨a1, a2⟩ := x1.old p.r hlt fun i q hq e => hj i (hr.inj _ _ q p hq hp e)
    exact ⟨a1, a2⟩
  have le1 : Le ρ (back θ ρ' ρ) := fun j => by
    by_cases hj : ∃ i, θ i = j
    · obtain ⟨i, rfl⟩ := hj
      rw [bi]
      exact x1.le i
    · have hj' : ∀ i, θ i ≠ j := fun i hi => hj ⟨i, hi⟩
      rw [back_out ρ' ρ hj']
      exact ⟨fun p hp => .inl hp, fun hp => hp⟩
  have e2 : Ext ρ st w (back θ ρ' ρ) { next := st.next + (u.s.post.length - u.th.length), h := H } w' := by
    refine ⟨Nat.le_add_right _ _, le1, fun j hj hn => ?_, x1.size, fun k hk hno => ?_, fun j p e m t hp hb => ?_, x1.os, x1.tape, x1.output⟩
    · by_cases hjj : ∃ i, θ i = j
      · obtain ⟨i, rfl⟩ := hjj
        have hi : i < u.th.length := Classical.byContradiction fun hc => by rw [hge i (by omega)] at hj; omega
        obtain ⟨a1, a2⟩ := x1.hid i (by rw [stOf_next]; omega) hn
        have e1 : u.s.pre[i]? = some u.s.pre[i] := List.getElem?_eq_getElem (by omega)
        refine ⟨by rw [bi]; exact a1, ?_⟩
        show H.get (θ i) = _
        rw [st1 i (by omega), a2, stOf_get, e1, k2 i _ e1]
        rfl
      · have hj' : ∀ i, θ i ≠ j := fun i hi => hjj ⟨i, hi⟩
        exact ⟨by rw [back_out ρ' ρ hj']; exact hn, out1 j hj'⟩
    · obtain ⟨a1, a2⟩ := x1.old k hk fun i p hp => hno (θ i) p hp
      refine ⟨a1, fun j p hp => ?_⟩
      by_cases hjj : ∃ i, θ i = j
      · obtain ⟨i, rfl⟩ := hjj
        rw [bi] at hp
        exact a2 i p hp
      · rw [back_out ρ' ρ (fun i hi => hjj ⟨i, hi⟩)] at hp
        exact hno j p hp
    · by_cases hjj : ∃ i, θ i = j
      · obtain ⟨i, rfl⟩ := hjj
        have hlow : θ i < st.next := (hr.at' _ p hp).1
        have hi : i < u.th.length := Classical.byContradiction fun hc => by rw [hge i (by omega)] at hlow; omega
        have e1 : u.s.pre[i]? = some u.s.pre[i] := List.getElem?_eq_getElem (by omega)
        have h7 := k2 i _ e1
        rw [hb] at h7
        cases hbb : u.s.pre[i] with
        | cells z e' m' t' =>
          rw [hbb] at h7
          simp only [B.ren, Option.some.injEq, B.cells.injEq] at h7
          obtain ⟨rfl, rfl, rfl, rfl⟩ := h7
          obtain ⟨a1, a2, a3⟩ := x1.kept i p e m t' hp (by rw [stOf_get, e1, hbb])
          refine ⟨by rw [bi]; exact a1, a2, ?_⟩
          show H.get (θ i) = _
          rw [st1 i (by omega), a3]
          rfl
        | _ => rw [hbb] at h7; simp [B.ren] at h7
      · have hj' : ∀ i, θ i ≠ j := fun i hi => hjj ⟨i, hi⟩
        exact ⟨by rw [back_out ρ' ρ hj']; exact hp, fun _ => (away j p hj' hp).1, by show H.get j = _; rw [out1 j hj']; exact hb⟩
  refine ⟨X, back θ ρ' ρ, rfl, ?_, ?_, e2⟩
  · rw [← hfun] at hX; exact (VR_ren (back θ ρ' ρ) θ u.s.v X).1 hX
  · refine ⟨fun j p hp => ?_, fun j hp => ?_, fun j k p q hp hq e => ?_⟩
    · by_cases hjj : ∃ i, θ i = j
      · obtain ⟨i, rfl⟩ := hjj
        rw [bi] at hp
        have hi := top1 i _ hp
        obtain ⟨_, b, o, hb, ho, hB⟩ := r1.at' i p hp
        refine ⟨?_, b.ren θ, o, ?_, ho, ?_⟩
        · show θ i < st.next + _
          by_cases hil : i < u.th.length
          · have := hlt i hil; omega
          · rw [hge i (by omega)]; omega
        · show H.get (θ i) = _
          rw [st1 i hi, hb]; rfl
        · rw [← hfun] at hB; exact BR_ren.1 hB
      · have hj' : ∀ i, θ i ≠ j := fun i hi => hjj ⟨i, hi⟩
        rw [back_out ρ' ρ hj'] at hp
        obtain ⟨h3, b, o, hb, ho, hB⟩ := hr.at' j p hp
        exact ⟨by show j < st.next + _; omega, b, o, by show H.get j = _; rw [out1 j hj']; exact hb, by rw [(away j p hj' hp).1]; exact ho, hB.mono le1⟩
    · by_cases hjj : ∃ i, θ i = j
      · obtain ⟨i, rfl⟩ := hjj
        rw [bi] at hp
        have hi := top1 i _ hp
        refine ⟨?_, ?_⟩
        · show θ i < st.next + _
          by_cases hil : i < u.th.length
          · have := hlt i hil; omega
          · rw [hge i (by omega)]; omega
        · show H.get (θ i) = _
          rw [st1 i hi, (r1.gone i hp).2]; rfl
      · have hj' : ∀ i, θ i ≠ j := fun i hi => hjj ⟨i, hi⟩
        rw [back_out ρ' ρ hj'] at hp
        exact ⟨by show j < st.next + _; have := (hr.gone j hp).1; omega, by show H.get j = _; rw [out1 j hj']; exact (hr.gone j hp).2⟩
    · by_cases hjj : ∃ i, θ i = j
      · obtain ⟨i, rfl⟩ := hjj
        rw [bi] at hp
        by_cases hkk : ∃ i, θ i = k
        · obtain ⟨i', rfl⟩ := hkk
          rw [bi] at hq
          rw [r1.inj i i' p q hp hq e]
        · have hk' : ∀ i, θ i ≠ k := fun i hi => hkk ⟨i, hi⟩
          rw [back_out ρ' ρ hk'] at hq
          exact absurd e ((away k q hk' hq).2 i p hp)
      · have hj' : ∀ i, θ i ≠ j := fun i hi => hjj ⟨i, hi⟩
        rw [back_out ρ' ρ hj'] at hp
        by_cases hkk : ∃ i, θ i = k
        · obtain ⟨i', rfl⟩ := hkk
          rw [bi] at hq
          exact absurd e.symm ((away j p hj' hp).2 i' q hq)
        · have hk' : ∀ i, θ i ≠ k := fun i hi => hkk ⟨i, hi⟩
          rw [back_out ρ' ρ hk'] at hq
          exact hr.inj j k p q hp hq e

theorem withTab_ok {self : Self} (hS : SelfOk P self) {tab : List Us} (ht : ∀ u ∈ tab, u.s.Valid P) : SelfOk P (withTab P tab self) where
  fn := fun f args st v st' h ρ A w n hr hg ha => by
    have key : ∀ tab : List Us, (∀ u ∈ tab, u.s.Valid P) → withTab P tab self (.fn f) args st = some (v, st') → CallsIn Fence.wide n P f A w (RetOk P ρ st w v st') := by
      intro tab
      induction tab with
      | nil => intro _ h; exact hS.fn f args st v st' h ρ A w n hr hg ha
      | cons u l ih =>
        intro ht h
        have h' : sel (Nat.beq f u.s.f) (sel (Nat.beq st.next u.N) (u.go P args st) (withTab P l self (.fn f) args st)) (withTab P l self (.fn f) args st) = some (v, st') := h
        rw [sel_eq] at h'
        split at h'
        · rename_i hf
          rw [sel_eq] at h'
          split at h'
          · rw [Nat.eq_of_beq_eq_true hf]
            exact Us.go_sound (ht u (List.mem_cons_self ..)) h' ρ A w n hr hg ha
          · exact ih (fun x hx => ht x (List.mem_cons_of_mem _ hx)) h'
        · exact ih (fun x hx => ht x (List.mem_cons_of_mem _ hx)) h'
    exact key tab ht h
  dfn := fun f args st v st' h => hS.dfn f args st v st' h
  round := fun id args st v st' h => hS.round id args st v st' h

theorem runT_sound (hP : PH P xt) {tab : List Us} (ht : ∀ u ∈ tab, u.s.Valid P) : ∀ k : Nat, SelfOk P (runT P xt tab k)
  | 0 => ⟨fun _ _ _ _ _ h => (by cases h), fun _ _ _ _ _ h => (by cases h), fun _ _ _ _ _ h => (by cases h)⟩
  | k + 1 => by
    have ih := withTab_ok (runT_sound hP ht k) ht
    exact ⟨fun f args st v st' h ρ A w n hr hg ha => callF_sound hP ih h n hr hg ha, fun f args st v st' h ρ A w n u hr hg ha => callD_sound hP ih h n u hr hg ha,
      fun id args st v st' h ρ A w l n hr hg hy ha => roundF_sound hP ih h n hr hg hy ha⟩
end
end Go.Ev


/- A checked summary holds; and what a summary of a closed call says in any world. -/
namespace Go.Ev
section
variable {P : Program} {xt : FuncId → Option XK}

theorem psN_lo {n0 : Nat} {ps : List Nat} {N1 i : Nat} (h : i < n0) : psN n0 ps N1 i = i := by
  unfold psN; rw [sel_eq, if_pos (show Nat.blt i n0 = true from Nat.ble_eq_true_of_le h)]
theorem not_blt {a b : Nat} (h : b ≤ a) : ¬ (Nat.blt a b = true) := fun h1 => absurd (blt_lt h1) (by omega)
theorem psN_mid {n0 : Nat} {ps : List Nat} {N1 i j : Nat} (h : n0 ≤ i) (hj : ps[i - n0]? = some j) : psN n0 ps N1 i = j := by
  unfold psN; rw [sel_eq, if_neg (not_blt h), nth_eq]
  show (match ps[i - n0]? with | some j => j | none => _) = j
  rw [hj]
theorem psN_hi {n0 : Nat} {ps : List Nat} {N1 i : Nat} (h : n0 + ps.length ≤ i) : psN n0 ps N1 i = N1 + i := by
  unfold psN; rw [sel_eq, if_neg (not_blt (by omega)), nth_eq]
  show (match ps[i - n0]? with | some j => j | none => _) = _
  rw [List.getElem?_eq_none (by omega)]
  rfl
theorem psN_inj {n0 : Nat} {ps : List Nat} {N1 : Nat} (hn : ps.Nodup) (hl : ∀ x ∈ ps, x < N1) (hg : ∀ x ∈ ps, n0 ≤ x) (h0 : n0 ≤ N1) {a b : Nat} (h : psN n0 ps N1 a = psN n0 ps N1 b) : a = b := by
  have cases3 : ∀ i, (i < n0 ∧ psN n0 ps N1 i = i) ∨ (∃ hi : i - n0 < ps.length, n0 ≤ i ∧ psN n0 ps N1 i = ps[i - n0]) ∨ (n0 + ps.length ≤ i ∧ psN n0 ps N1 i = N1 + i) := fun i => by
    by_cases h1 : i < n0
    · exact .inl ⟨h1, psN_lo h1⟩
    · by_cases h2 : i - n0 < ps.length
      · exact .inr (.inl ⟨h2, by omega, psN_mid (by omega) (List.getElem?_eq_getElem h2)⟩)
      · exact .inr (.inr ⟨by omega, psN_hi (by omega)⟩)
  rcases cases3 a with ⟨a1, a2⟩ | ⟨a1, a3, a2⟩ | ⟨a1, a2⟩ <;> rcases cases3 b with ⟨b1, b2⟩ | ⟨b1, b3, b2⟩ | ⟨b1, b2⟩ <;> rw [a2, b2] at h
  · exact h
  · have := hg _ (List.getElem_mem b1); omega
  · omega
  · have := hg _ (List.getElem_mem a1); omega
  · have := (List.getElem_inj hn).1 h; omega
  · have := hl _ (List.getElem_mem a1); omega
  · omega
  · have := hl _ (List.getElem_mem b1); omega
  · omega

theorem Sm.fin2_eq {s : Sm} {ps : List Nat} {θ : Nat → Nat} {v1 : V} {st1 : St} (h : s.fin2 ps θ v1 st1 = true) :
    v1 = s.v.ren θ ∧ (∀ j b, s.post[j]? = some b → st1.h.get (θ j) = b.map (B.ren θ)) ∧ (∀ (i : Nat) b, s.pre[i]? = some b → b.ren θ = b) ∧ ps.Nodup ∧ (∀ x ∈ ps, x < st1.next) ∧ (∀ x ∈ ps, s.pre.length ≤ x) ∧
    s.post.length = s.pre.length + ps.length := by
  unfold Sm.fin2 at h
  obtain ⟨h1, h2⟩ := sel_false_eq.1 h
  obtain ⟨h3, h4⟩ := sel_false_eq.1 h2
  obtain ⟨h5, h6⟩ := sel_false_eq.1 h4
  obtain ⟨h7, h8⟩ := sel_false_eq.1 h6
  obtain ⟨h9, h10⟩ := sel_false_eq.1 h8
  obtain ⟨h11, h12⟩ := sel_false_eq.1 h10
  have h13 := Nat.eq_of_beq_eq_true h12
  rw [len_eq, len_eq, len_eq] at h13
  rw [len_eq] at h11
  have j2 := hasAllO_eq h3
  simp only [Nat.zero_add] at j2
  exact ⟨veq_sound 8 _ _ h1, j2, sameAll_eq h5, nodupN_eq h7, allLt_eq h9, allGe_eq h11, h13⟩

theorem Sm.valid_of (hP : PH P xt) {tab : List Us} (ht : ∀ u ∈ tab, u.s.Valid P) {k : Nat} {s : Sm} {ps : List Nat} (h : s.check P xt tab k ps = true) : s.Valid P := by
  intro ρ A w n hr hg ha
  unfold Sm.check at h
  cases hrun : runT P xt tab k (.fn s.f) s.args (stOf s.pre) with
  | none => rw [hrun] at h; cases h
  | some q =>
    obtain ⟨v1, S1⟩ := q
    rw [hrun] at h
    have h' : s.fin2 ps (psN (len s.pre) ps S1.next) v1 S1 = true := h
    obtain ⟨e1, h2, h3, h4, h5, h6, h7⟩ := Sm.fin2_eq h'
    refine ((runT_sound hP ht k).fn s.f s.args _ v1 S1 hrun ρ A w n hr hg ha).mono fun e w' hq => ?_
    obtain ⟨X, ρ1, rfl, hX, r1, x1⟩ := hq
    have hn0 : s.pre.length ≤ S1.next := by have := x1.next; rwa [stOf_next] at this
    rw [len_eq] at e1 h2 h3
    have hinj : ∀ a b, psN s.pre.length ps S1.next a = psN s.pre.length ps S1.next b → a = b := fun a b hab => psN_inj h4 h5 h6 hn0 hab
    have hlo : ∀ i, i < s.pre.length → psN s.pre.length ps S1.next i = i := fun i hi => psN_lo hi
    have hhi : ∀ i, s.post.length ≤ i → psN s.pre.length ps S1.next i = S1.next + i := fun i hi => psN_hi (by omega)
    revert e1 h2 h3 hinj hlo hhi
    generalize psN s.pre.length ps S1.next = θ
    intro e1 h2 h3 hinj hlo hhi
    subst e1
    -- what was there is told as it was
    have back1 : ∀ b c : B, b.ren θ = c.ren θ → b = c := fun b c hbc => by
      have hφ : ∃ φ : Nat → Nat, ∀ i, φ (θ i) = i := by
        classical
        refine ⟨fun j => if h : ∃ i, θ i = j then Classical.choose h else 0, fun i => ?_⟩
        have h : ∃ k, θ k = θ i := ⟨i, rfl⟩
        show (if h : ∃ k, θ k = θ i then Classical.choose h else 0) = i
        rw [dif_pos h]
        exact hinj _ _ (Classical.choose_spec h)
      obtain ⟨φ, hφ⟩ := hφ
      rw [← B.ren_left hφ b, hbc, B.ren_left hφ c]
    have same1 : ∀ i b, i < s.pre.length → (stOf s.pre).h.get i = some b → S1.h.get i = some b → (stOfO s.post).h.get i = some b := fun i b hi hb h1 => by
      rw [stOf_get] at hb
      have e1 : s.post[i]? = some s.post[i] := List.getElem?_eq_getElem (by omega)
      have := h2 i _ e1
      rw [hlo i hi, h1] at this
      rw [stOfO_get, e1]
      cases hp : s.post[i] with
      | none => rw [hp] at this; cases this
      | some c =>
        rw [hp] at this
        have e2 : b = c.ren θ := by simpa using this
        have e3 : b.ren θ = c.ren θ := by rw [h3 i b hb]; exact e2
        rw [← back1 b c e3]
        rfl
    have top : ∀ i x, ρ1 (θ i) = some x → i < s.post.length := fun i x hx => by
      refine Classical.byContradiction fun hc => ?_
      rw [hhi i (by omega), r1.none_of_ge (by omega)] at hx
      cases hx
    have none1 : ∀ i, s.pre.length ≤ i → ρ i = none := fun i hi => hr.none_of_ge (by rw [stOf_next]; exact hi)
    have low : ∀ i x, ρ i = some x → i < s.pre.length := fun i x hx => Classical.byContradiction fun hc => by rw [none1 i (by omega)] at hx; cases hx
    refine ⟨X, fun i => ρ1 (θ i), rfl, (VR_ren ρ1 θ s.v X).2 hX, ⟨fun i p hp => ?_, fun i hp => ?_, fun i j p q hp hq e => hinj _ _ (r1.inj _ _ p q hp hq e)⟩, ?_⟩
    · have hi := top i _ hp
      obtain ⟨_, b, o, hb, ho, hB⟩ := r1.at' _ p hp
      have e1 : s.post[i]? = some s.post[i] := List.getElem?_eq_getElem hi
      have e2 := h2 i _ e1
      rw [hb] at e2
      cases hp : s.post[i] with
      | none => rw [hp] at e2; cases e2
      | some c =>
        rw [hp] at e2
        have e3 : b = c.ren θ := by simpa using e2
        subst e3
        exact ⟨by rw [stOfO_next]; exact hi, c, o, by rw [stOfO_get, e1, hp]; rfl, ho, BR_ren.2 hB⟩
    · have hi := top i _ hp
      have e1 : s.post[i]? = some s.post[i] := List.getElem?_eq_getElem hi
      have e2 := h2 i _ e1
      rw [(r1.gone _ hp).2] at e2
      refine ⟨by rw [stOfO_next]; exact hi, ?_⟩
      rw [stOfO_get, e1]
      cases hp : s.post[i] with
      | none => rfl
      | some c => rw [hp] at e2; cases e2
    · refine ⟨by rw [stOf_next, stOfO_next]; omega, fun i => ?_, fun i hi hn => ?_, x1.size, fun k hk hno => ?_, fun i p e m t hp hb => ?_, x1.os, x1.tape, x1.output⟩
      · by_cases hi : i < s.pre.length
        · show (∀ p, ρ i = _ → ρ1 (θ i) = _ ∨ _) ∧ (ρ i = _ → ρ1 (θ i) = _)
          rw [hlo i hi]
          exact x1.le i
        · rw [none1 i (by omega)]
          exact ⟨fun p hp => (by cases hp), fun hp => (by cases hp)⟩
      · rw [stOf_next] at hi
        obtain ⟨a1, a2⟩ := x1.hid i (by rw [stOf_next]; exact hi) hn
        refine ⟨by show ρ1 (θ i) = none; rw [hlo i hi]; exact a1, ?_⟩
        have e1 : (stOf s.pre).h.get i = some s.pre[i] := by rw [stOf_get]; exact List.getElem?_eq_getElem hi
        rw [e1]
        exact same1 i _ hi e1 (by rw [a2, e1])
      · obtain ⟨a1, a2⟩ := x1.old k hk hno
        exact ⟨a1, fun i p hp => a2 (θ i) p hp⟩
      · have hi := low i _ hp
        obtain ⟨a1, a2, a3⟩ := x1.kept i p e m t hp hb
        exact ⟨by show ρ1 (θ i) = _; rw [hlo i hi]; exact a1, a2, same1 i _ hi hb a3⟩
end
end Go.Ev


/- A summary that knows the package's variables alone: what it says of any world in which they are as they are told. -/
namespace Go.Ev
section
variable {P : Program}

/-- a variable's block lies where it lies, and holds what is told of it -/
def GlAt (W : World) (g : Nat) (b : B) : Prop := ∃ c el fz n t, W.heap[g]? = some (.cells c el fz) ∧ b = .cells .gl none n t ∧ n ≤ c.size ∧
  ∀ i v, i < n → t.get i = some v → v.many = false ∧ ∃ x, c[i]? = some x ∧ VR (fun _ => none) v x

open Classical in
theorem rh_start {l : List B} {W : World} (hs : P.globals.size = l.length) (h : ∀ g b, l[g]? = some b → GlAt W g b) :
    ∃ ρ : Ro, RH P ρ (stOf l) W.heap ∧ Gl P ρ (stOf l) ∧ ∀ k p, ρ k = some (some p) → k < l.length ∧ p.r = k ∧ ∃ e n t, (stOf l).h.get k = some (.cells .gl e n t) := by
  let ρ : Ro := fun g => if g < l.length then (match W.heap[g]? with | some (.cells c _ _) => some (some ⟨g, 0, c.size, true⟩) | _ => none) else none
  have hle : Le (fun _ => none) ρ := fun id => ⟨fun p hp => (by cases hp), fun hp => (by cases hp)⟩
  have key : ∀ g p, ρ g = some (some p) → g < l.length ∧ p.r = g ∧ ∃ b o, l[g]? = some b ∧ W.heap[g]? = some o ∧ BR P ρ p b o ∧ ∃ n t, b = .cells .gl none n t := fun g p hp => by
    have hlt : g < l.length := Classical.byContradiction fun hc => by simp [ρ, hc] at hp
    obtain ⟨c, el, fz, n, t, h1, h2, h3, h4⟩ := h g _ (List.getElem?_eq_getElem hlt)
    have hp' : (if g < l.length then (match W.heap[g]? with | some (.cells c _ _) => some (some ⟨g, 0, c.size, true⟩) | _ => none) else none : Option (Option Pl)) = some (some p) := hp
    rw [if_pos hlt, h1] at hp'
    cases hp'
    refine ⟨hlt, rfl, _, _, List.getElem?_eq_getElem hlt, h1, ?_, n, t, h2⟩
    rw [h2]
    refine ⟨rfl, c, el, fz, rfl, rfl, by show 0 + n ≤ c.size; omega, fun i v hi hv => ?_, trivial, fun u hu => by cases hu⟩
    obtain ⟨h5, x, h6, h7⟩ := h4 i v hi hv
    exact ⟨h5, x, by show c[0 + i]? = _; rw [Nat.zero_add]; exact h6, h7.mono hle⟩
  have dead : ∀ g, ρ g ≠ some none := fun g hg => by
    have hg' : (if g < l.length then (match W.heap[g]? with | some (.cells c _ _) => some (some ⟨g, 0, c.size, true⟩) | _ => none) else none : Option (Option Pl)) = some none := hg
    split at hg'
    · split at hg' <;> cases hg'
    · cases hg'
  refine ⟨ρ, ⟨fun id p hp => ?_, fun id hp => absurd hp (dead id), fun a b p q hp hq e => ?_⟩, fun g hg => ?_, fun k p hp => ?_⟩
  · obtain ⟨h1, h2, b, o, h3, h4, h5, _⟩ := key id p hp
    exact ⟨by rw [stOf_next]; exact h1, b, o, by rw [stOf_get]; exact h3, by rw [h2]; exact h4, h5⟩
  · rw [← (key a p hp).2.1, ← (key b q hq).2.1]; exact e
  · have hlt : g < l.length := by omega
    obtain ⟨c, el, fz, n, t, h1, h2, h3, h4⟩ := h g _ (List.getElem?_eq_getElem hlt)
    refine ⟨⟨g, 0, c.size, true⟩, none, n, t, ?_, rfl, rfl, by rw [stOf_get, List.getElem?_eq_getElem hlt, h2]⟩
    show (if g < l.length then (match W.heap[g]? with | some (.cells c _ _) => some (some ⟨g, 0, c.size, true⟩) | _ => none) else none : Option (Option Pl)) = _
    rw [if_pos hlt, h1]
  · obtain ⟨h1, h2, b, o, h3, _, _, n, t, h6⟩ := key k p hp
    exact ⟨h1, h2, none, n, t, by rw [stOf_get, h3, h6]⟩

/-- what was there is as it was -/
def Grown (W W' : World) : Prop := (∀ k, k < W.heap.size → W'.heap[k]? = W.heap[k]?) ∧ W.heap.size ≤ W'.heap.size ∧ W'.os = W.os ∧ W'.output = W.output

theorem Sm.closed {s : Sm} (hv : s.Valid P) (ha : s.args = []) (hs : P.globals.size = s.pre.length) {W : World} (h : ∀ g b, s.pre[g]? = some b → GlAt W g b) :
    Calls P s.f #[] W fun e W' => ∃ X ρ', e = .returned X ∧ VR ρ' s.v X ∧ Grown W W' := by
  obtain ⟨ρ, r, g, hk⟩ := rh_start (P := P) hs h
  refine (callsIn_wide (n := 0).1 ((hv ρ #[] W 0 r g (by rw [ha]; exact VRs.nil)).mono fun e W' hq => ?_))
  obtain ⟨X, ρ', rfl, hX, r', x⟩ := hq
  refine ⟨X, ρ', rfl, hX, fun k hlt => ?_, x.size, x.os, x.output⟩
  by_cases hex : ∃ id p, ρ id = some (some p) ∧ p.r = k
  · obtain ⟨id, p, hp, rfl⟩ := hex
    obtain ⟨_, _, e, n, t, hb⟩ := hk id p hp
    exact (x.kept id p e n t hp hb).2.1 hlt
  · exact (x.old k hlt fun id p hp hr => hex ⟨id, p, hp, hr⟩).1
end
end Go.Ev


/- The package's variables, as a row lists them, and as a world has them. -/
namespace Go.Ev
noncomputable section
def litOk (v : V) (d : DataW Unit) : Bool := match v, d with
  | .int k n, .lit (.int k' m) => decide (k = k' ∧ n = m)
  | .str s, .lit (.string b) => decide (s = b.map (·.toNat))
  | _, _ => false
def rowOk : List V → List (DataW Unit) → Bool
  | [], _ => true
  | v :: vs, d :: ds => litOk v d && rowOk vs ds
  | _ :: _, [] => false
end
theorem rowOk_get : ∀ {vs : List V} {ds : List (DataW Unit)}, rowOk vs ds = true → ∀ (i : Nat) v, vs[i]? = some v → ∃ d, ds[i]? = some d ∧ litOk v d = true
  | [], _, _, i, v, hv => by simp at hv
  | w :: vs, [], h, i, v, hv => by cases h
  | w :: vs, d :: ds, h, i, v, hv => by
    have h' : (litOk w d && rowOk vs ds) = true := h
    rw [Bool.and_eq_true] at h'
    cases i with
    | zero => simp at hv; subst hv; exact ⟨d, rfl, h'.1⟩
    | succ i => simpa using rowOk_get h'.2 i v (by simpa using hv)

section
variable {P : Program} {W : World}
theorem laidVars_at : ∀ {laid : List (String × DataW Unit)} {ps : List MemPlace}, DataW.LaidVars P W laid ps → ∀ (i : Nat) n d, laid[i]? = some (n, d) →
    ∃ g t cs fuel p, P.globalNamed n = some g ∧ (P.globals[g]?).map (·.type) = some t ∧ W.var? P n = some cs ∧ DataW.trod (fun _ => ()) P W 0 (fun _ => true) false fuel t cs.toList = some (d, p)
  | [], _, _, i, n, d, hi => by simp at hi
  | (n', d') :: r, ps, h, i, n, d, hi => by
    obtain ⟨g, t, cs, fuel, p, q, h1, h2, h3, h4, h5, _⟩ := h
    cases i with
    | zero => simp at hi; obtain ⟨rfl, rfl⟩ := hi; exact ⟨g, t, cs, fuel, p, h1, h2, h3, h4⟩
    | succ i => exact laidVars_at h5 i n d (by simpa using hi)

theorem vr_lit {v : V} {d : DataW Unit} {c : Value} {e : TypeId} {m : Nat} {x : DataW Unit × List MemPlace} (hv : litOk v d = true) (he : (∃ k, P.underlying e = some (.int k)) ∨ P.underlying e = some .string) {cs : List Value}
    (hcs : cs = [] ∨ cs = [c]) (h : DataW.trod (fun _ => ()) P W 0 (fun _ => true) false m e cs = some x) (hd : x.1 = d) : cs = [c] ∧ v.many = false ∧ VR (fun _ => none) v c := by
  rcases he with ⟨k, hk⟩ | hs
  · obtain ⟨n, hc, hx, _⟩ := DataW.trod_int hk h
    rcases hcs with rfl | rfl
    · cases hc
    · cases hc
      subst hd
      rw [hx] at hv
      cases v with
      | int k' n' =>
        have : k' = k ∧ n' = n := by simpa [litOk] using hv
        obtain ⟨rfl, rfl⟩ := this
        exact ⟨rfl, rfl, by simp only [VR]⟩
      | _ => simp [litOk] at hv
  · obtain ⟨s, hc, hx, _⟩ := DataW.trod_string hs h
    rcases hcs with rfl | rfl
    · cases hc
    · cases hc
      subst hd
      rw [hx] at hv
      cases v with
      | str b =>
        have hb : b = s.data.toList.map (·.toNat) := by simpa [litOk] using hv
        subst hb
        refine ⟨rfl, rfl, ?_⟩
        simp only [VR]
        refine ⟨map_toNat_small _, ?_⟩
        congr 1
        apply ByteArray.ext
        show s.data = _
        rw [strOf, toNat_toUInt8]
      | _ => simp [litOk] at hv

theorem GlAt.of_laid {laid : List (String × DataW Unit)} (hl : laidMet P laid W) {i : Nat} {n : String} {ds : List (DataW Unit)} (hi : laid[i]? = some (n, .agg ds)) {g : Nat} (hg : P.globalNamed n = some g) {t e : TypeId} {m : Nat}
    (ht : (P.globals[g]?).map (·.type) = some t) (ha : P.underlying t = some (.array m e)) (hc : P.cellsOf e = 1) (he : (∃ k, P.underlying e = some (.int k)) ∨ P.underlying e = some .string) {vs : List V} (hv : rowOk vs ds = true) :
    GlAt W g (.cells .gl none (len vs) (.ofList vs)) := by
  obtain ⟨ps, hps, _, _⟩ := hl
  obtain ⟨g', t', cs, fuel, p, h1, h2, h3, h4⟩ := laidVars_at hps i n _ hi
  obtain rfl := Option.some.inj (hg.symm.trans h1)
  obtain rfl := Option.some.inj (ht.symm.trans h2)
  obtain ⟨xs, m1, rfl, hx, hlen, hn, hel⟩ := DataW.trod_array ha h4
  have hds : ds = xs.map (·.1) := by
    have := congrArg Prod.fst hx
    simpa using this
  have hheap : ∃ el fz, W.heap[g]? = some (.cells cs el fz) := by
    unfold World.var? at h3
    rw [hg] at h3
    simp only [Option.bind_some] at h3
    split at h3
    · rename_i cs' el fz hh; cases h3; exact ⟨el, fz, hh⟩
    · cases h3
  obtain ⟨el, fz, hh⟩ := hheap
  have at_ : ∀ j v, vs[j]? = some v → ∃ c, cs[j]? = some c ∧ v.many = false ∧ VR (fun _ => none) v c := fun j v hj => by
    obtain ⟨d, hd, hlit⟩ := rowOk_get hv j v hj
    rw [hds, List.getElem?_map, Option.map_eq_some_iff] at hd
    obtain ⟨x, hx1, hx2⟩ := hd
    have hjm : j < m := by rw [← hn]; exact (List.getElem?_eq_some_iff.1 hx1).1
    have h5 := hel j hjm
    rw [hx1, hc, Nat.mul_one] at h5
    cases hcj : cs.toList[j]? with
    | none =>
      have h6 : (cs.toList.drop j).take 1 = [] := by rw [List.drop_eq_nil_of_le (by rw [List.getElem?_eq_none_iff] at hcj; exact hcj)]; rfl
      rw [h6] at h5
      obtain ⟨h7, _⟩ := vr_lit (c := .bool true) hlit he (.inl rfl) h5 hx2
      cases h7
    | some c =>
      have h6 : (cs.toList.drop j).take 1 = [c] := by
        obtain ⟨hlt, hce⟩ := List.getElem?_eq_some_iff.1 hcj
        rw [List.drop_eq_getElem_cons hlt, hce]
        rfl
      rw [h6] at h5
      obtain ⟨_, h7, h8⟩ := vr_lit hlit he (.inr rfl) h5 hx2
      exact ⟨c, by rw [← Array.getElem?_toList]; exact hcj, h7, h8⟩
  refine ⟨cs, el, fz, len vs, .ofList vs, hh, rfl, ?_, fun j v hj hv' => ?_⟩
  · rw [len_eq]
    refine Classical.byContradiction fun hc' => ?_
    have hlt : cs.size < vs.length := by omega
    obtain ⟨c, hc1, _⟩ := at_ cs.size _ (List.getElem?_eq_getElem hlt)
    simp at hc1
  · rw [Tr.get_ofList] at hv'
    obtain ⟨c, hc1, hc2, hc3⟩ := at_ j v hv'
    exact ⟨hc2, c, hc1, hc3⟩
theorem GlAt.bare {g : Nat} {c : Array Value} {el : TypeId} {fz : Nat × Nat} (h : W.heap[g]? = some (.cells c el fz)) : GlAt W g (.cells .gl none (len ([] : List V)) (.ofList [])) :=
  ⟨c, el, fz, 0, .ofList [], h, rfl, Nat.zero_le _, fun _ _ hi => absurd hi (Nat.not_lt_zero _)⟩
end
end Go.Ev

