/- A state as a part of another under other names; a loop that makes blocks. No program in it. -/
import Derived.Test.YtjiajajifgfmjaaVmN
set_option linter.unusedVariables false
set_option linter.unusedSimpArgs false
namespace Go.Proofs.Ytjiajajifgfmjaa.Vm
open Go

/-- s0 is a part of s under other names; those below g are the same. -/
structure Part (g : Nat) (σ : Ren) (s0 s : St) : Prop where
  cap : ∀ j t, σ j = some t → t.cap = none ∧ t.base = 0
  low : ∀ j t, j < g → σ j = some t → t.blk = j
  dom : ∀ j t, σ j = some t → j < s0.n
  inj : ∀ i j t u, σ i = some t → σ j = some u → t.blk = u.blk → i = j
  env : ∀ t v, lkp s0.env t = some v → ∃ u, lkp s.env t = some u ∧ VRel σ v u
  obj : ∀ i o, s0.heap i = some o → ∃ t o', σ i = some t ∧ s.heap t.blk = some o' ∧ OV σ o o'
  le : g ≤ s0.n

def Sub (g : Nat) (s0 s : St) : Prop := ∃ σ, Part g σ s0 s

section
variable {P : Program} {τ : Nat → Option TI} {m g : Nat} {Q : Exit → St → Prop} {s s0 : St}

theorem sub_rel (h : Sub g s0 s) {ρ : Ren} {a : Act} {w : World} (hr : Rel m g ρ s a w) :
    ∃ ρ2, Rel m g ρ2 s0 a w ∧ (∀ b, Blks ρ2 s0.heap b → Blks ρ s.heap b) ∧ ∀ i, i < g → ρ2 i = ρ i := by
  obtain ⟨σ, hp⟩ := h
  let ρ2 : Ren := fun i => if i < g then ρ i else compR σ ρ i
  have hext : Ext (compR σ ρ) ρ2 := by
    intro i t ht
    obtain ⟨u, hu, ht'⟩ := Option.bind_eq_some_iff.1 ht
    simp only [ρ2]
    split
    · rename_i hi; rw [hp.low i u hi hu] at ht'; exact ht'
    · exact ht
  have hobj : ∀ i o, s0.heap i = some o → ∃ t o1 x o', σ i = some t ∧ s.heap t.blk = some o1 ∧ o1.fixed = o.fixed ∧ ρ t.blk = some x ∧ w.heap[x.blk]? = some o' ∧ ORel ρ2 x o o' ∧ ρ2 i = some x := by
    intro i o hi
    obtain ⟨t, o1, h1, h2, h3⟩ := hp.obj i o hi
    obtain ⟨x, o', h4, h5, h6⟩ := hr.sim.has _ _ h2
    have hc : compR σ ρ i = some x := by simp [compR, h1, h4]
    exact ⟨t, o1, x, o', h1, h2, h3.fixed, h4, h5, (h3.comp hp.cap h6).mono hext, hext _ _ hc⟩
  refine ⟨ρ2, ⟨?_, hp.le, ⟨?_, ?_⟩, ?_, hr.size, hr.defers⟩, ?_, ?_⟩
  · intro i hi
    simp only [ρ2]
    rw [if_neg (by have := hp.le; omega)]
    cases hx : σ i with
    | none => simp [compR, hx]
    | some t => have := hp.dom i t hx; omega
  · intro i o hi
    obtain ⟨_, _, x, o', _, _, _, _, h5, h6, h7⟩ := hobj i o hi
    exact ⟨x, o', h7, h5, h6⟩
  · intro i j o p x y hij hi hj hx hy hf
    obtain ⟨t, o1, x1, _, a1, a2, a3, a4, _, _, a7⟩ := hobj i o hi
    obtain ⟨u, p1, y1, _, b1, b2, b3, b4, _, _, b7⟩ := hobj j p hj
    rw [a7] at hx; cases hx
    rw [b7] at hy; cases hy
    exact hr.sim.apart t.blk u.blk _ _ _ _ (fun e => hij (hp.inj i j t u a1 b1 e)) a2 b2 a4 b4 (by rw [a3, b3]; exact hf)
  · intro t v ht
    obtain ⟨u, h1, h2⟩ := hp.env t v ht
    obtain ⟨v', h3, h4⟩ := hr.env t u h1
    exact ⟨v', h3, (h2.comp hp.cap h4).mono hext⟩
  · rintro b ⟨i, o, x, hi, hf, hx, hb⟩
    obtain ⟨t, o1, x1, _, a1, a2, a3, a4, _, _, a7⟩ := hobj i o hi
    rw [a7] at hx; cases hx
    exact ⟨t.blk, o1, x, a2, a3.trans hf, a4, hb⟩
  · intro i hi
    simp only [ρ2]
    rw [if_pos hi]

theorem keep_sub {ρ ρ2 ρ' : Ren} {V V2 V' : Heap} {w w' : World} (hb : ∀ b, Blks ρ2 V2 b → Blks ρ V b) (h : Keep ρ2 V2 w ρ' V' w') : Keep ρ V w ρ' V' w' :=
  { h with block := fun b hlt hn => h.block b hlt (fun hx => hn (hb b hx)), new := fun b hx => (h.new b hx).imp (hb b) id }

theorem vw_sub {c : Code} (h : Sub g s0 s) (K : VW P m g c Q s0) : VW P m g c Q s := by
  intro ρ a w hr
  obtain ⟨ρ2, h1, h2, h3⟩ := sub_rel h hr
  refine wp_mono (K ρ2 a w h1) ?_
  rintro e a1 w1 ⟨s1, ρ1, hq, hr1, hk, hg⟩
  exact ⟨s1, ρ1, hq, hr1, keep_sub h2 hk, fun i hi => (hg i hi).trans (h3 i hi)⟩

/-- A loop whose rounds make blocks: its relation speaks of a part of the state. -/
theorem vw_loop_sub {c : Code} (I : Nat → St → Prop) (k0 : Nat) (h0 : ∃ s0, Sub g s0 s ∧ I k0 s0)
    (round : ∀ k s, I k s → VW P m g c (then_ (fun s' => ∃ k' s0, k' < k ∧ Sub g s0 s' ∧ I k' s0) Q) s) : VW P m g (.loop c) Q s := by
  intro ρ a w hr
  refine wp_loop_ghost (fun k a1 w1 => ∃ s1 ρ1, I k s1 ∧ Rel m g ρ1 s1 a1 w1 ∧ Keep ρ s.heap w ρ1 s1.heap w1 ∧ ∀ i, i < g → ρ1 i = ρ i) k0 ?_ ?_
  · obtain ⟨s0, h1, h2⟩ := h0
    obtain ⟨ρ2, h3, h4, h5⟩ := sub_rel h1 hr
    exact ⟨s0, ρ2, h2, h3, keep_sub h4 (.refl _ _ _), h5⟩
  rintro k a1 w1 ⟨s1, ρ1, hI, hr1, hk1, hg1⟩
  refine wp_mono (round k s1 hI ρ1 a1 w1 hr1) ?_
  rintro e a2 w2 ⟨s2, ρ2, hq, hr2, hk2, hg2⟩
  cases e with
  | normal =>
    obtain ⟨k', s0, hlt, hs, hI'⟩ := hq
    obtain ⟨ρ3, h3, h4, h5⟩ := sub_rel hs hr2
    refine ⟨k', hlt, s0, ρ3, hI', h3, ?_, fun i hi => (h5 i hi).trans ((hg2 i hi).trans (hg1 i hi))⟩
    exact (hk1.trans hk2).trans (keep_sub h4 (.refl _ _ _))
  | _ => exact ⟨s2, ρ2, hq, hr2, hk1.trans hk2, fun i hi => (hg2 i hi).trans (hg1 i hi)⟩

/-- The names of a part: those below g, and a row of others. -/
def names (g : Nat) (ids : List Nat) : Ren := fun j => if j < g then some ⟨j, none, 0⟩ else (ids[j - g]?).map (⟨·, none, 0⟩)

/-- Temporaries, one by one. -/
def EnvPart (σ : Ren) (env0 env : List (Nat × Value)) : Prop := ∀ t v, lkp env0 t = some v → ∃ u, lkp env t = some u ∧ VRel σ v u
theorem ep_nil {σ : Ren} {env : List (Nat × Value)} : EnvPart σ [] env := fun t v h => by cases h
theorem ep_cons {σ : Ren} {env0 env : List (Nat × Value)} {t : Nat} {v u : Value} (h : lkp env t = some u) (hr : VRel σ v u) (k : EnvPart σ env0 env) : EnvPart σ ((t, v) :: env0) env := by
  intro x y hx
  simp only [lkp] at hx
  split at hx
  · rename_i he; subst he; cases hx; exact ⟨u, h, hr⟩
  · exact k x y hx

def HeapPart (σ : Ren) (H0 : List (Nat × VObj)) (V : Heap) : Prop := ∀ i o, lkp H0 i = some o → ∃ t o', σ i = some t ∧ V t.blk = some o' ∧ OV σ o o'
theorem hp_nil {σ : Ren} {V : Heap} : HeapPart σ [] V := fun t v h => by cases h
theorem hp_cons {σ : Ren} {H0 : List (Nat × VObj)} {V : Heap} {i j : Nat} {o o' : VObj} (h1 : σ i = some ⟨j, none, 0⟩) (h2 : V j = some o') (h3 : OV σ o o') (k : HeapPart σ H0 V) : HeapPart σ ((i, o) :: H0) V := by
  intro x y hx
  simp only [lkp] at hx
  split at hx
  · rename_i he; subst he; cases hx; exact ⟨_, o', h1, h2, h3⟩
  · exact k x y hx

theorem sub_of (ids : List Nat) (hd : ids.Nodup) (hge : ∀ i ∈ ids, g ≤ i) {env0 env : List (Nat × Value)} {H0 : List (Nat × VObj)} {V : Heap} {n : Nat} (he : EnvPart (names g ids) env0 env) (hh : HeapPart (names g ids) H0 V) :
    Sub g ⟨env0, lkp H0, g + ids.length⟩ ⟨env, V, n⟩ := by
  refine ⟨names g ids, ?_, ?_, ?_, ?_, he, hh, Nat.le_add_right _ _⟩
  · intro j t h
    unfold names at h
    split at h
    · cases h; exact ⟨rfl, rfl⟩
    · obtain ⟨x, _, rfl⟩ := Option.map_eq_some_iff.1 h; exact ⟨rfl, rfl⟩
  · intro j t hj h
    unfold names at h
    rw [if_pos hj] at h; cases h; rfl
  · intro j t h
    unfold names at h
    split at h
    · simp only; omega
    · obtain ⟨x, hx, rfl⟩ := Option.map_eq_some_iff.1 h
      have := (List.getElem?_eq_some_iff.1 hx).1
      simp only; omega
  · intro i j t u hi hj htu
    unfold names at hi hj
    split at hi <;> split at hj
    · cases hi; cases hj; exact htu
    · cases hi
      obtain ⟨x, hx, rfl⟩ := Option.map_eq_some_iff.1 hj
      have := hge x (List.mem_of_getElem? hx)
      simp only at htu; omega
    · cases hj
      obtain ⟨x, hx, rfl⟩ := Option.map_eq_some_iff.1 hi
      have := hge x (List.mem_of_getElem? hx)
      simp only at htu; omega
    · obtain ⟨x, hx, rfl⟩ := Option.map_eq_some_iff.1 hi
      obtain ⟨y, hy, rfl⟩ := Option.map_eq_some_iff.1 hj
      simp only at htu; subst htu
      have h1 := (List.getElem?_eq_some_iff.1 hx)
      have h2 := (List.getElem?_eq_some_iff.1 hy)
      obtain ⟨h1, h1'⟩ := h1
      obtain ⟨h2, h2'⟩ := h2
      have := (List.getElem_inj hd).1 (h1'.trans h2'.symm)
      omega

end
end Go.Proofs.Ytjiajajifgfmjaa.Vm
