/- From a function's body to what a call asks and gives. No program in it. -/
import Derived.Test.YtjiajajifgfmjaaVmL
set_option linter.unusedVariables false
set_option linter.unusedSimpArgs false
namespace Go.Proofs.Ytjiajajifgfmjaa.Vm
open Go

/-- Objects of names, and of names of names. -/
inductive OV (σ : Ren) : VObj → VObj → Prop
  | cells {c c' : List Value} (e : TypeId) (fr : Nat × Nat) (h : LRel σ c c') : OV σ (.cells c e fr) (.cells c' e fr)
  | opn {c c' : List Value} (e : TypeId) (sz : Nat) (h : LRel σ c c') : OV σ (.opn c e sz) (.opn c' e sz)
  | ro {c c' : List Value} (h : LRel σ c c') : OV σ (.ro c) (.ro c')
  | map {es es' : List (Value × Value)} (hk : LRel σ (es.map (·.1)) (es'.map (·.1))) (hv : LRel σ (es.map (·.2)) (es'.map (·.2))) : OV σ (.map es) (.map es')

theorem OV.comp {σ ρ : Ren} (hσ : ∀ j s, σ j = some s → s.cap = none ∧ s.base = 0) {o o1 : VObj} (h : OV σ o o1) {s : Slot} {o' : Obj} (k : ORel ρ s o1 o') : ORel (compR σ ρ) s o o' := by
  cases h with
  | cells e fr h => cases k with | cells _ _ hs hb hl => exact .cells e fr hs hb (h.comp hσ hl)
  | opn e sz h => cases k with | opn _ hs hb hl hc hk hz fr hf => exact .opn e hs hb (h.comp hσ hl) hc hk hz fr hf
  | ro h => cases k with | ro e fr hs hl => exact .ro e fr hs (by rw [h.1]; exact h.comp hσ hl)
  | map hk hv => cases k with | map hs hk' hv' => exact .map hs (hk.comp hσ hk') (hv.comp hσ hv')

/-- The names below n, as they are. -/
def idn (n : Nat) : Ren := fun i => if i < n then some ⟨i, none, 0⟩ else none

theorem OV.fixed {σ : Ren} {o o1 : VObj} (h : OV σ o o1) : o1.fixed = o.fixed := by cases h <;> rfl

theorem idn_cap (n : Nat) : ∀ j s, idn n j = some s → s.cap = none ∧ s.base = 0 := by
  intro j s h
  unfold idn at h
  split at h
  · cases h; exact ⟨rfl, rfl⟩
  · cases h

theorem comp_idn (n : Nat) (ρ : Ren) (i : Nat) : compR (idn n) ρ i = if i < n then ρ i else none := by
  unfold compR idn
  split <;> rfl

def argEnv : Nat → List Value → List (Nat × Value)
  | _, [] => []
  | k, v :: r => (k, v) :: argEnv (k + 1) r

theorem lkp_argEnv : ∀ (l : List Value) (k t : Nat) (v : Value), lkp (argEnv k l) t = some v → k ≤ t ∧ l[t - k]? = some v
  | [], k, t, v, h => by cases h
  | x :: r, k, t, v, h => by
    simp only [argEnv, lkp] at h
    split at h
    · rename_i he; subst he; cases h; exact ⟨Nat.le_refl _, by simp⟩
    · obtain ⟨h1, h2⟩ := lkp_argEnv r (k + 1) t v h
      refine ⟨by omega, ?_⟩
      have : t - k = (t - (k + 1)) + 1 := by omega
      rw [this, List.getElem?_cons_succ]; exact h2

/-- How the names of a function's body are those of its contract: at its begin (ι, of the body's names: p) and at its end (σ, of the contract's names). -/
structure Fit (n k p : Nat) (ι σ : Ren) (L0 : List (Nat × VObj)) (L : List (Nat × Option VObj)) (s : St) : Prop where
  cap : ∀ j t, σ j = some t → t.cap = none ∧ t.base = 0
  dom : ∀ j t, σ j = some t → (n ≤ j ∧ j < n + k) ∨ (t.blk < p ∧ ∃ u, ι t.blk = some u ∧ u.blk = j)
  inj : ∀ i j t u, σ i = some t → σ j = some u → t.blk = u.blk → i = j
  obj : ∀ i o, lkp L i = some (some o) → o.fixed = false ∧ ∃ t o', σ i = some t ∧ s.heap t.blk = some o' ∧ OV σ o o'
  all : ∀ a o u, lkp L0 a = some o → o.fixed = false → ι a = some u → lkp L u.blk ≠ none

/-- What is to be shown at a function's end. -/
def Ends (τ : Nat → Option TI) (fn : Func) (n k p : Nat) (ι : Ren) (L0 : List (Nat × VObj)) (R : Value → List (Nat × Option VObj) → Prop) (e : Exit) (s : St) : Prop :=
  (e = .normal ∨ e = .ret) ∧ ∃ v L σ vr, R v L ∧ evResults τ s fn.results.toList = some vr ∧ VRel σ v vr ∧ Fit n k p ι σ L0 L s

section
variable {P : Program} {τ : Nat → Option TI} {m g : Nat}

theorem evResults_ok (hτ : Tab P τ) {ρ : Ren} {s : St} {a : Act} {w : World} (hr : Rel m g ρ s a w) {fn : Func} {v : Value} (h : evResults τ s fn.results.toList = some v) :
    ∃ v', (results fn a.tmps).run P w = .ok v' w ∧ VRel ρ v v' := by
  let one : ResultVar → Option Value := fun
    | .tmp t => lkp s.env t
    | .cell a t => (lkp s.env a).bind (evLoad τ s.heap t)
  let run1 : ResultVar → Sem Value := fun
    | .tmp t => pure (a.tmps.getD t undef)
    | .cell p t => do loadVar t (← asAddr (a.tmps.getD p undef))
  have h1 : ∀ r u, one r = some u → ∃ v', (run1 r).run P w = .ok v' w ∧ VRel ρ u v' := by
    intro r u hu
    cases r with
    | tmp t =>
      obtain ⟨v', h1, h2⟩ := hr.env t u hu
      exact ⟨v', by simp [run1, h1], h2⟩
    | cell p t =>
      simp only [one, Option.bind_eq_some_iff] at hu
      obtain ⟨x, hx, hl⟩ := hu
      obtain ⟨x', h1, h2⟩ := hr.env p x hx
      obtain ⟨v', h3, h4⟩ := evLoad_ok hτ.ok hr.sim h2 hl
      refine ⟨v', ?_, h4⟩
      have : ∃ ad, x' = .pointer (some ad) := by
        unfold evLoad at hl
        split at hl
        · cases h2 with | ptr => exact ⟨_, rfl⟩
        · cases hl
      obtain ⟨ad, rfl⟩ := this
      simp only [Instr.loadAt, Instr.sureAddr, Sem.run_bind, Sem.run_pure, Result.andThen_ok] at h3
      simp only [run1, Array.getD_eq_getD_getElem?, h1, Option.getD_some, asAddr, Sem.run_bind, Sem.run_pure, Result.andThen_ok]
      exact h3
  have hmap : ∀ (rs : List ResultVar) vs, rs.foldr (fun r acc => match one r, acc with | some v, some vs => some (v :: vs) | _, _ => none) (some []) = some vs →
      ∃ vs', (rs.mapM run1).run P w = .ok vs' w ∧ LRel ρ vs vs' := by
    intro rs
    induction rs with
    | nil => intro vs h; cases h; exact ⟨[], rfl, lrel_nil⟩
    | cons r rs ih =>
      intro vs h
      simp only [List.foldr_cons] at h
      split at h
      case h_2 => cases h
      rename_i v vs' hv hvs
      cases h
      obtain ⟨v', hv1, hv2⟩ := h1 r v hv
      obtain ⟨w', hw1, hw2⟩ := ih vs' hvs
      exact ⟨v' :: w', by simp only [List.mapM_cons, Sem.run_bind, hv1, Result.andThen_ok, hw1, Sem.run_pure], lrel_cons hv2 hw2⟩
  have hres : results fn a.tmps = (do
      let vs ← fn.results.mapM run1
      pure (if h : vs.size = 1 then vs[0] else .tuple vs)) := rfl
  have hrun : ∀ l, (fn.results.toList.mapM run1).run P w = .ok l w → (fn.results.mapM run1).run P w = .ok l.toArray w := by
    intro l hl
    rw [Array.mapM_eq_mapM_toList, Sem.run_map, hl]; rfl
  rw [hres, Sem.run_bind]
  have hone : ∀ r, fn.results.toList = [r] → one r = some v → ∃ v', ((fn.results.mapM run1).run P w).andThen (fun vs w' => (pure (if h : vs.size = 1 then vs[0] else .tuple vs) : Sem Value).run P w') = .ok v' w ∧ VRel ρ v v' := by
    intro r hrs hv
    obtain ⟨v', hv1, hv2⟩ := h1 r v hv
    rw [hrun [v'] (by rw [hrs]; simp only [List.mapM_cons, List.mapM_nil, Sem.run_bind, hv1, Result.andThen_ok, Sem.run_pure])]
    exact ⟨v', by simp, hv2⟩
  unfold evResults at h
  split at h
  · rename_i r hrs
    exact hone r hrs h
  · rename_i hne
    simp only [Option.map_eq_some_iff] at h
    obtain ⟨vs, hvs, rfl⟩ := h
    obtain ⟨vs', hv1, hv2⟩ := hmap _ vs hvs
    rw [hrun vs' hv1]
    refine ⟨.tuple vs'.toArray, ?_, vrel_tuple hv2⟩
    have hlen : vs'.length ≠ 1 := by
      intro hl
      have h2 : vs.length = 1 := hv2.1.trans hl
      have h3 : ∀ (rs : List ResultVar) us, rs.foldr (fun r acc => match one r, acc with | some v, some vs => some (v :: vs) | _, _ => none) (some []) = some us → us.length = rs.length := by
        intro rs
        induction rs with
        | nil => intro us h; cases h; rfl
        | cons r rs ih =>
          intro us h
          simp only [List.foldr_cons] at h
          split at h
          · cases h; simp [ih _ ‹_›]
          · cases h
      have h4 := h3 _ _ hvs
      rw [h2] at h4
      obtain ⟨r, hr1⟩ := List.length_eq_one_iff.1 h4.symm
      exact hne r hr1
    simp [hlen]

theorem tri_of_vw (hτ : Tab P τ) {F : FuncId} {fn : Func} {c : Code} {args argsI : List Value} {n k : Nat} {V : Heap} {R : Value → List (Nat × Option VObj) → Prop} (hf : P.funcs[F]? = some fn) (hb : fn.body = some c) (hm : fn.ntmps = m)
    (hlen : argsI.length ≤ m) (p : Nat) (ι : Ren) (hι : ∀ a s, ι a = some s → a < p ∧ s.cap = none ∧ s.base = 0) (hinj : ∀ a b s t, ι a = some s → ι b = some t → s.blk = t.blk → a = b)
    (L0 : List (Nat × VObj)) (h0 : ∀ a o, lkp L0 a = some o → ∃ s o1, ι a = some s ∧ V s.blk = some o1 ∧ OV ι o o1) (ha : LRel ι argsI args)
    (h : VW P m p c (Ends τ fn n k p ι L0 R) ⟨argEnv 0 argsI, lkp L0, p⟩) : Tri P F args n k V R := by
  intro ρ w args' hfree hs hargs
  have hcι : ∀ j s, ι j = some s → s.cap = none ∧ s.base = 0 := fun j s hj => (hι j s hj).2
  have hla := hargs.1
  have hla2 := ha.1
  let ρ0 := compR ι ρ
  have hρ0 : ∀ a s, ρ0 a = some s → ∃ u, ι a = some u ∧ ρ u.blk = some s := fun a s hi => Option.bind_eq_some_iff.1 hi
  have hblk : ∀ b, Blks ρ0 (lkp L0) b → ∃ a o u o1 s, lkp L0 a = some o ∧ o.fixed = false ∧ ι a = some u ∧ V u.blk = some o1 ∧ o1.fixed = false ∧ ρ u.blk = some s ∧ s.blk = b := by
    rintro b ⟨j, o, s, h1, hf, h2, h3⟩
    obtain ⟨u, o1, g1, g2, g5⟩ := h0 j o h1
    obtain ⟨u', g3, g4⟩ := hρ0 j s h2
    rw [g1] at g3; cases g3
    exact ⟨j, o, u, o1, s, h1, hf, g1, g2, g5.fixed.trans hf, g4, h3⟩
  have hrel : Rel m p ρ0 ⟨argEnv 0 argsI, lkp L0, p⟩ { tmps := args'.toArray ++ Array.replicate (fn.ntmps - args'.toArray.size) undef, defers := [] } w := by
    refine ⟨?_, Nat.le_refl _, ⟨?_, ?_⟩, ?_, ?_, rfl⟩
    · intro i hi
      simp only at hi
      cases hx : ρ0 i with
      | none => rfl
      | some s =>
        obtain ⟨u, h1, _⟩ := hρ0 i s hx
        have := (hι i u h1).1
        omega
    · intro i o hi
      obtain ⟨u, o1, h1, h2, h3⟩ := h0 i o hi
      obtain ⟨s, o', h4, h5, h6⟩ := hs.has _ _ h2
      exact ⟨s, o', by simp [ρ0, compR, h1, h4], h5, h3.comp hcι h6⟩
    · intro i j o p s t hij hi hj hi' hj' hfx
      obtain ⟨u, o1, h1, h2, hov1⟩ := h0 i o hi
      obtain ⟨v, o2, k1, k2, hov2⟩ := h0 j p hj
      obtain ⟨u', h3, h4⟩ := hρ0 i s hi'
      obtain ⟨v', k3, k4⟩ := hρ0 j t hj'
      rw [h1] at h3; cases h3
      rw [k1] at k3; cases k3
      exact hs.apart u.blk v.blk _ _ s t (fun e => hij (hinj i j u v h1 k1 e)) h2 k2 h4 k4 (by rw [hov1.fixed, hov2.fixed]; exact hfx)
    · intro t v ht
      obtain ⟨_, h2⟩ := lkp_argEnv argsI 0 t v ht
      simp only [Nat.sub_zero] at h2
      obtain ⟨v', h3, h4⟩ := lrel_get (ha.comp hcι hargs) h2
      refine ⟨v', ?_, h4⟩
      rw [Array.getElem?_append_left (by simpa using (List.getElem?_eq_some_iff.1 h3).1)]
      simpa using h3
    · simp only [Array.size_append, List.size_toArray, Array.size_replicate]; omega
  refine calls_of_wp hf hb (wp_mono (h ρ0 _ w hrel) ?_)
  rintro e a1 w1 ⟨s1, ρ1, ⟨he, v, L, σ, vr, hR, hres, hvr, hfit⟩, hr1, hk, hg⟩
  obtain ⟨v', hrun, hv'⟩ := evResults_ok hτ hr1 hres
  have hend : a1.defers = [] ∧ ∃ v, (results fn a1.tmps).run P w1 = .ok v w1 ∧ (fun (e : Ending) w' => ∃ v L v' ρ', R v L ∧ e = .returned v' ∧ VRel ρ' v v' ∧ Sim ρ' (over V L) w' ∧ Keep ρ V w ρ' (over V L) w' ∧ ∀ i, ¬ (n ≤ i ∧ i < n + k) → ρ' i = ρ i) (.returned v) w1 := by
    refine ⟨hr1.defers, v', hrun, ?_⟩
    let ρ' : Ren := fun i => if n ≤ i ∧ i < n + k then compR σ ρ1 i else ρ i
    have hext : Ext (compR σ ρ1) ρ' := by
      intro i t ht
      obtain ⟨u, hu, ht'⟩ := Option.bind_eq_some_iff.1 ht
      simp only [ρ']
      split
      · exact ht
      · rename_i hno
        rcases hfit.dom i u hu with hd | ⟨hp, x, hx, hxi⟩
        · exact (hno hd).elim
        · rw [hg _ hp] at ht'
          obtain ⟨y, hy, hy'⟩ := hρ0 _ t ht'
          rw [hx] at hy; cases hy
          rw [← hxi]; exact hy'
    have hext2 : Ext ρ ρ' := by
      intro i t ht
      simp only [ρ']
      split
      · rename_i hin; rw [hfree i hin.1 hin.2] at ht; cases ht
      · exact ht
    -- of a name that was turned
    have hL : ∀ i o, lkp L i = some (some o) → ∃ u o1 s o', (o.fixed = false ∧ o1.fixed = false) ∧ σ i = some u ∧ s1.heap u.blk = some o1 ∧ ρ1 u.blk = some s ∧ w1.heap[s.blk]? = some o' ∧ ORel ρ' s o o' ∧ ρ' i = some s := by
      intro i o hi
      obtain ⟨hof, u, o1, h1, h2, h3⟩ := hfit.obj i o hi
      obtain ⟨s, o', h4, h5, h6⟩ := hr1.sim.has _ _ h2
      have hc : compR σ ρ1 i = some s := by simp [compR, h1, h4]
      exact ⟨u, o1, s, o', ⟨hof, h3.fixed.trans hof⟩, h1, h2, h4, h5, (h3.comp hfit.cap h6).mono hext, hext _ _ hc⟩
    -- of one that was not
    have hN : ∀ i o, lkp L i = none → V i = some o → ∃ s o', ρ i = some s ∧ w1.heap[s.blk]? = some o' ∧ ORel ρ' s o o' ∧ ρ' i = some s ∧ s.blk < w.heap.size ∧ ¬ Blks ρ0 (lkp L0) s.blk := by
      intro i o hi hV
      obtain ⟨s, o', h1, h2, h3⟩ := hs.has i o hV
      have hlt : s.blk < w.heap.size := (Array.getElem?_eq_some_iff.1 h2).1
      have hnb : ¬ Blks ρ0 (lkp L0) s.blk := by
        intro hb
        obtain ⟨a, p, u, o1, t, g1, gf, g2, g3, gf1, g4, g5⟩ := hblk _ hb
        have hij : i ≠ u.blk := by intro e; exact hfit.all a p u g1 gf g2 (by rw [← e]; exact hi)
        exact hs.apart i u.blk _ _ _ _ hij hV g3 h1 g4 (by simp [gf1]) g5.symm
      exact ⟨s, o', h1, by rw [hk.block _ hlt hnb]; exact h2, h3.mono hext2, hext2 _ _ h1, hlt, hnb⟩
    have hcase : ∀ i o, over V L i = some o → lkp L i = some (some o) ∨ (lkp L i = none ∧ V i = some o) := by
      intro i o hi
      unfold over at hi
      cases hx : lkp L i with
      | none => rw [hx] at hi; exact .inr ⟨rfl, hi⟩
      | some y => rw [hx] at hi; exact .inl (by rw [← hi]; rfl)
    have hnew : ∀ i o s, lkp L i = some (some o) → ρ' i = some s → Blks ρ1 s1.heap s.blk := by
      intro i o s hi hs'
      obtain ⟨u, o1, s2, o', ⟨_, hf1⟩, h1, h2, h3, h4, h5, h6⟩ := hL i o hi
      rw [h6] at hs'; cases hs'
      exact ⟨u.blk, o1, _, h2, hf1, h3, rfl⟩
    refine ⟨v, L, v', ρ', hR, rfl, (hvr.comp hfit.cap hv').mono hext, ⟨?_, ?_⟩, ⟨hk.os, hk.tape, hk.output, hk.size, ?_, ?_⟩, ?_⟩
    · intro i o hi
      rcases hcase i o hi with h1 | ⟨h1, h2⟩
      · obtain ⟨u, o1, s, o', _, _, _, _, h5, h6, h7⟩ := hL i o h1
        exact ⟨s, o', h7, h5, h6⟩
      · obtain ⟨s, o', _, h4, h5, h6, _⟩ := hN i o h1 h2
        exact ⟨s, o', h6, h4, h5⟩
    · have mixed : ∀ i j o p s t, lkp L i = some (some o) → lkp L j = none → V j = some p → ρ' i = some s → ρ' j = some t → s.blk ≠ t.blk := by
        intro i j o p s t hi hj hj' hs' ht' heq
        obtain ⟨t2, _, g1, _, _, g4, g5, g6⟩ := hN j p hj hj'
        rw [g4] at ht'; cases ht'
        rcases hk.new _ (hnew i o s hi hs') with hb | hb
        · rw [heq] at hb; exact g6 hb
        · omega
      intro i j o p s t hij hi hj hs' ht' hfx
      rcases hcase i o hi with h1 | ⟨h1, h2⟩ <;> rcases hcase j p hj with k1 | ⟨k1, k2⟩
      · obtain ⟨u, o1, s2, _, ⟨_, af⟩, a1', a2, a3, _, _, a6⟩ := hL i o h1
        obtain ⟨u', p1, t2, _, _, b1, b2, b3, _, _, b6⟩ := hL j p k1
        rw [a6] at hs'; cases hs'
        rw [b6] at ht'; cases ht'
        exact hr1.sim.apart u.blk u'.blk _ _ _ _ (fun e => hij (hfit.inj i j u u' a1' b1 e)) a2 b2 a3 b3 (by simp [af])
      · exact mixed i j o p s t h1 k1 k2 hs' ht'
      · exact (mixed j i p o t s k1 h1 h2 ht' hs').symm
      · obtain ⟨s2, _, a1', _, _, a6, _⟩ := hN i o h1 h2
        obtain ⟨t2, _, b1, _, _, b6, _⟩ := hN j p k1 k2
        rw [a6] at hs'; cases hs'
        rw [b6] at ht'; cases ht'
        exact hs.apart i j _ _ _ _ hij h2 k2 a1' b1 hfx
    · intro b hb hn
      refine hk.block b hb fun hx => ?_
      obtain ⟨a, o, u, o1, s, _, _, _, g2, gf, g3, g4⟩ := hblk b hx
      exact hn ⟨u.blk, o1, s, g2, gf, g3, g4⟩
    · rintro b ⟨i, o, s, hi, hof, hs', rfl⟩
      rcases hcase i o hi with h1 | ⟨h1, h2⟩
      · rcases hk.new _ (hnew i o s h1 hs') with hb | hb
        · obtain ⟨a, o, u, o1, t, _, _, _, g2, gf, g3, g4⟩ := hblk _ hb
          exact .inl ⟨u.blk, o1, t, g2, gf, g3, g4⟩
        · exact .inr hb
      · obtain ⟨s2, _, a1', _, _, a6, _⟩ := hN i o h1 h2
        rw [a6] at hs'; cases hs'
        exact .inl ⟨i, o, _, h2, hof, a1', rfl⟩
    · intro i hi
      simp only [ρ']
      rw [if_neg hi]
  rcases he with rfl | rfl
  · exact hend
  · exact hend

/-- A function of plain values: no name goes in or comes out. -/
def Fun (P : Program) (F : FuncId) (args : List Value) (v : Value) : Prop := ∀ n V, Tri P F args n 0 V (fun u L => u = v ∧ L = [])

/-- The names of none. -/
def no : Ren := fun _ => none

theorem fun_of_vw (hτ : Tab P τ) {F : FuncId} {fn : Func} {c : Code} {args : List Value} {v : Value} (hf : P.funcs[F]? = some fn) (hb : fn.body = some c) (hm : fn.ntmps = m) (hlen : args.length ≤ m)
    (ha : LRel no args args) (hv : VRel no v v) (h : VW P m 0 c (fun e s => (e = .normal ∨ e = .ret) ∧ evResults τ s fn.results.toList = some v) ⟨argEnv 0 args, fun _ => none, 0⟩) : Fun P F args v := by
  intro n V
  refine tri_of_vw hτ hf hb hm hlen 0 no (fun a s h => by cases h) (fun a b s t h => by cases h) [] (fun a o h => by cases h) ha ?_
  refine h.mono ?_
  rintro e s ⟨h1, h2⟩
  exact ⟨h1, v, [], no, v, ⟨rfl, rfl⟩, h2, hv, ⟨fun j t h => (by cases h), fun j t h => (by cases h), fun i j t u h => (by cases h), fun i o h => (by cases h), fun a o u h => (by cases h)⟩⟩

end
end Go.Proofs.Ytjiajajifgfmjaa.Vm
