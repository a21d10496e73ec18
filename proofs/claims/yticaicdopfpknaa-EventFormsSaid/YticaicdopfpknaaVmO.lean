/- A state as a part of another under other names; a loop that makes blocks. No program in it. -/
import Derived.Test.YticaicdopfpknaaVmN
set_option linter.unusedVariables false
set_option linter.unusedSimpArgs false
namespace Go.Proofs.Yticaicdopfpknaa.Vm
open Go

/-- s0 is a part of s under other names; those below g are the same. -/
structure Part (g : Nat) (σ : Ren) (s0 s : St) : Prop where
  cap : Plain σ
  low : ∀ j t, j < g → σ j = some t → t.gone = false ∧ t.blk = j
  dom : ∀ j t, σ j = some t → j < s0.n
  inj : ∀ i j t u, σ i = some t → σ j = some u → t.gone = false → u.gone = false → t.blk = u.blk → i = j
  env : ∀ t v, lkp s0.env t = some v → ∃ u, lkp s.env t = some u ∧ VRel σ v u
  obj : ∀ i o, s0.heap i = some o → ∃ t, σ i = some t ∧ ((t.gone = true ∧ o.void = true) ∨ (t.gone = false ∧ ∃ o', s.heap t.blk = some o' ∧ OW σ o o'))
  le : g ≤ s0.n

def Sub (g : Nat) (s0 s : St) : Prop := ∃ σ, Part g σ s0 s

section
variable {P : Program} {τ : Nat → Option TI} {m g : Nat} {Q : Exit → St → Prop} {s s0 : St}

theorem sub_rel (h : Sub g s0 s) {ρ : Ren} {a : Act} {w : World} (hr : Rel m g ρ s a w) :
    ∃ ρ2, Rel m g ρ2 s0 a w ∧ (∀ b, Blks ρ2 s0.heap b → Blks ρ s.heap b) ∧ ∀ i, i < g → ρ2 i = ρ i := by
  obtain ⟨σ, hp⟩ := h
  let ρ2 : Ren := fun i => if i < g then ρ i else compR σ ρ i
  have hext : Ext (compR σ ρ) ρ2 := by
    intro i t ht
    simp only [ρ2]
    split
    · rename_i hi
      obtain ⟨u, hu, _⟩ := Option.bind_eq_some_iff.1 ht
      obtain ⟨h1, h2⟩ := hp.low i u hi hu
      rw [comp_real hu h1, h2] at ht; exact ht
    · exact ht
  have hobj : ∀ i o, s0.heap i = some o → ∃ x, ρ2 i = some x ∧ At ρ2 w x o ∧ (x.gone = false → ∃ t o1, t.gone = false ∧ σ i = some t ∧ s.heap t.blk = some o1 ∧ o1.fixed = o.fixed ∧ ρ t.blk = some x) := by
    intro i o hi
    obtain ⟨t, h1, h2⟩ := hp.obj i o hi
    rcases h2 with ⟨hg, hv⟩ | ⟨hg, o1, h3, h4⟩
    · exact ⟨t, hext _ _ (comp_gone h1 hg), .inl ⟨hg, hv, .inr (hp.cap.thin h1 hg)⟩, fun h => by rw [hg] at h; cases h⟩
    · obtain ⟨x, h5, h6⟩ := hr.sim.has _ _ h3
      refine ⟨x, hext _ _ (by rw [comp_real h1 hg]; exact h5), ?_, fun _ => ⟨t, o1, hg, h1, h3, h4.fixed, h5⟩⟩
      rcases h6 with ⟨h6, h7, h9⟩ | ⟨h6, o', h7, h8⟩
      · exact .inl ⟨h6, h4.void h7, h4.fixed ▸ h9⟩
      · exact .inr ⟨h6, o', h7, (h4.comp hp.cap h8).mono hext⟩
  refine ⟨ρ2, ⟨?_, hp.le, ⟨?_, ?_⟩, ?_, hr.size, hr.defers⟩, ?_, ?_⟩
  · intro i hi
    simp only [ρ2]
    rw [if_neg (by have := hp.le; omega)]
    cases hx : σ i with
    | none => simp [compR, hx]
    | some t => have := hp.dom i t hx; omega
  · intro i o hi
    obtain ⟨x, h1, h2, _⟩ := hobj i o hi
    exact ⟨x, h1, h2⟩
  · intro i j o p x y hij hi hj hx hy hxg hyg hf
    obtain ⟨x1, a1, _, a2⟩ := hobj i o hi
    rw [a1] at hx; cases hx
    obtain ⟨t, o1, a3, a4, a5, a6, a7⟩ := a2 hxg
    obtain ⟨y1, b1, _, b2⟩ := hobj j p hj
    rw [b1] at hy; cases hy
    obtain ⟨u, p1, b3, b4, b5, b6, b7⟩ := b2 hyg
    exact hr.sim.apart t.blk u.blk _ _ _ _ (fun e => hij (hp.inj i j t u a4 b4 a3 b3 e)) a5 b5 a7 b7 hxg hyg (by rw [a6, b6]; exact hf)
  · intro t v ht
    obtain ⟨u, h1, h2⟩ := hp.env t v ht
    obtain ⟨v', h3, h4⟩ := hr.env t u h1
    exact ⟨v', h3, (h2.comp hp.cap h4).mono hext⟩
  · rintro b ⟨i, o, x, hi, hf, hx, hxg, hb⟩
    obtain ⟨x1, a1, _, a2⟩ := hobj i o hi
    rw [a1] at hx; cases hx
    obtain ⟨t, o1, a3, a4, a5, a6, a7⟩ := a2 hxg
    exact ⟨t.blk, o1, _, a5, a6.trans hf, a7, hxg, hb⟩
  · intro i hi
    simp only [ρ2]
    rw [if_pos hi]

theorem keep_sub {ρ ρ2 ρ' : Ren} {V V2 V' : Heap} {w w' : World} (hb : ∀ b, Blks ρ2 V2 b → Blks ρ V b) (h : Keep ρ2 V2 w ρ' V' w') : Keep ρ V w ρ' V' w' :=
  { h with block := fun b hlt hn => h.block b hlt (fun hx => hn (hb b hx)), new := fun b hx => (h.new b hx).imp (hb b) id }

theorem vw_sub {c : Code} (h : Sub g s0 s) (K : VW P m g c Q s0) : VW P m g c Q s := by
  intro ρ a w hr
  obtain ⟨ρ2, h1, h2, h3⟩ := sub_rel h hr
  refine wp_mono (K ρ2 a w h1) ?_
  rintro e a1 w1 ⟨s1, ρ1, hq, hr1, hk, hg⟩
  exact ⟨s1, ρ1, hq, hr1, keep_sub h2 hk, fun i hi => (hg i hi).trans (h3 i hi)⟩

/-- A loop whose rounds make blocks: its relation speaks of a part of the state. -/
theorem vw_loop_sub {c : Code} (I : Nat → St → Prop) (k0 : Nat) (h0 : ∃ s0, Sub g s0 s ∧ I k0 s0)
    (round : ∀ k s, I k s → VW P m g c (then_ (fun s' => ∃ k' s0, k' < k ∧ Sub g s0 s' ∧ I k' s0) Q) s) : VW P m g (.loop c) Q s := by
  intro ρ a w hr
  refine wp_loop_ghost (fun k a1 w1 => ∃ s1 ρ1, I k s1 ∧ Rel m g ρ1 s1 a1 w1 ∧ Keep ρ s.heap w ρ1 s1.heap w1 ∧ ∀ i, i < g → ρ1 i = ρ i) k0 ?_ ?_
  · obtain ⟨s0, h1, h2⟩ := h0
    obtain ⟨ρ2, h3, h4, h5⟩ := sub_rel h1 hr
    exact ⟨s0, ρ2, h2, h3, keep_sub h4 (.refl _ _ _), h5⟩
  rintro k a1 w1 ⟨s1, ρ1, hI, hr1, hk1, hg1⟩
  refine wp_mono (round k s1 hI ρ1 a1 w1 hr1) ?_
  rintro e a2 w2 ⟨s2, ρ2, hq, hr2, hk2, hg2⟩
  cases e with
  | normal =>
    obtain ⟨k', s0, hlt, hs, hI'⟩ := hq
    obtain ⟨ρ3, h3, h4, h5⟩ := sub_rel hs hr2
    refine ⟨k', hlt, s0, ρ3, hI', h3, ?_, fun i hi => (h5 i hi).trans ((hg2 i hi).trans (hg1 i hi))⟩
    exact (hk1.trans hk2).trans (keep_sub h4 (.refl _ _ _))
  | _ => exact ⟨s2, ρ2, hq, hr2, hk1.trans hk2, fun i hi => (hg2 i hi).trans (hg1 i hi)⟩

/-- The number that stands for nothing: a slice that is nil. -/
def NIL : Nat := 1000000

def nameOf (i : Nat) : Slot := if i = NIL then nowhere else ⟨i, none, 0⟩

/-- The names of a part: those below g, and a row of others. -/
def names (g : Nat) (ids : List Nat) : Ren := fun j => if j < g then some ⟨j, none, 0⟩ else (ids[j - g]?).map nameOf

theorem nameOf_plain (i : Nat) : (nameOf i).cap = some (0, 0) ∨ ((nameOf i).cap = none ∧ (nameOf i).base = 0) := by
  unfold nameOf; split
  · exact .inl rfl
  · exact .inr ⟨rfl, rfl⟩
theorem nameOf_real {i : Nat} (h : (nameOf i).gone = false) : i ≠ NIL ∧ nameOf i = ⟨i, none, 0⟩ := by
  unfold nameOf at *
  split at h
  · cases h
  · rename_i hne; exact ⟨hne, if_neg hne⟩

/-- Temporaries, one by one. -/
def EnvPart (σ : Ren) (env0 env : List (Nat × Value)) : Prop := ∀ t v, lkp env0 t = some v → ∃ u, lkp env t = some u ∧ VRel σ v u
theorem ep_nil {σ : Ren} {env : List (Nat × Value)} : EnvPart σ [] env := fun t v h => by cases h
theorem ep_cons {σ : Ren} {env0 env : List (Nat × Value)} {t : Nat} {v u : Value} (h : lkp env t = some u) (hr : VRel σ v u) (k : EnvPart σ env0 env) : EnvPart σ ((t, v) :: env0) env := by
  intro x y hx
  simp only [lkp] at hx
  split at hx
  · rename_i he; subst he; cases hx; exact ⟨u, h, hr⟩
  · exact k x y hx

def HeapPart (σ : Ren) (H0 : List (Nat × VObj)) (V : Heap) : Prop := ∀ i o, lkp H0 i = some o → ∃ t, σ i = some t ∧ ((t.gone = true ∧ o.void = true) ∨ (t.gone = false ∧ ∃ o', V t.blk = some o' ∧ OW σ o o'))
theorem hp_nil {σ : Ren} {V : Heap} : HeapPart σ [] V := fun t v h => by cases h
theorem hp_cons {σ : Ren} {H0 : List (Nat × VObj)} {V : Heap} {i j : Nat} {o o' : VObj} (h1 : σ i = some ⟨j, none, 0⟩) (h2 : V j = some o') (h3 : OV σ o o') (k : HeapPart σ H0 V) : HeapPart σ ((i, o) :: H0) V := by
  intro x y hx
  simp only [lkp] at hx
  split at hx
  · rename_i he; subst he; cases hx; exact ⟨_, h1, .inr ⟨rfl, o', h2, .same h3⟩⟩
  · exact k x y hx
theorem hp_cut {σ : Ren} {H0 : List (Nat × VObj)} {V : Heap} {i j : Nat} {o o' : VObj} (h1 : σ i = some ⟨j, none, 0⟩) (h2 : V j = some o') (h3 : OW σ o o') (k : HeapPart σ H0 V) : HeapPart σ ((i, o) :: H0) V := by
  intro x y hx
  simp only [lkp] at hx
  split at hx
  · rename_i he; subst he; cases hx; exact ⟨_, h1, .inr ⟨rfl, o', h2, h3⟩⟩
  · exact k x y hx
theorem hp_void {σ : Ren} {H0 : List (Nat × VObj)} {V : Heap} {i : Nat} {o : VObj} (h1 : σ i = some nowhere) (h2 : o.void = true) (k : HeapPart σ H0 V) : HeapPart σ ((i, o) :: H0) V := by
  intro x y hx
  simp only [lkp] at hx
  split at hx
  · rename_i he; subst he; cases hx; exact ⟨_, h1, .inl ⟨rfl, h2⟩⟩
  · exact k x y hx

theorem ids_inj {ids : List Nat} (hd : (ids.filter (· != NIL)).Nodup) : ∀ {i j x : Nat}, ids[i]? = some x → ids[j]? = some x → x ≠ NIL → i = j := by
  induction ids with
  | nil => intro i j x h; simp at h
  | cons y r ih =>
    intro i j x hi hj hx
    have hr : (r.filter (· != NIL)).Nodup := by
      simp only [List.filter_cons] at hd
      split at hd
      · exact (List.nodup_cons.1 hd).2
      · exact hd
    have hy : y = x → ∀ k : Nat, r[k]? ≠ some x := by
      rintro rfl k hk
      simp only [List.filter_cons] at hd
      rw [if_pos (by simpa using hx)] at hd
      exact (List.nodup_cons.1 hd).1 (List.mem_filter.2 ⟨List.mem_of_getElem? hk, by simpa using hx⟩)
    cases i with
    | zero =>
      simp only [List.getElem?_cons_zero, Option.some.injEq] at hi
      cases j with
      | zero => rfl
      | succ j => exact (hy hi j (by simpa using hj)).elim
    | succ i =>
      cases j with
      | zero =>
        simp only [List.getElem?_cons_zero, Option.some.injEq] at hj
        exact (hy hj i (by simpa using hi)).elim
      | succ j => exact congrArg Nat.succ (ih hr (by simpa using hi) (by simpa using hj) hx)

theorem sub_of (ids : List Nat) (hd : (ids.filter (· != NIL)).Nodup) (hge : ∀ i ∈ ids, g ≤ i) {env0 env : List (Nat × Value)} {H0 : List (Nat × VObj)} {V : Heap} {n : Nat} (he : EnvPart (names g ids) env0 env) (hh : HeapPart (names g ids) H0 V) :
    Sub g ⟨env0, lkp H0, g + ids.length⟩ ⟨env, V, n⟩ := by
  refine ⟨names g ids, ?_, ?_, ?_, ?_, he, hh, Nat.le_add_right _ _⟩
  · intro j t h
    unfold names at h
    split at h
    · cases h; exact .inr ⟨rfl, rfl⟩
    · obtain ⟨x, _, rfl⟩ := Option.map_eq_some_iff.1 h; exact nameOf_plain x
  · intro j t hj h
    unfold names at h
    rw [if_pos hj] at h; cases h; exact ⟨rfl, rfl⟩
  · intro j t h
    unfold names at h
    split at h
    · simp only; omega
    · obtain ⟨x, hx, rfl⟩ := Option.map_eq_some_iff.1 h
      have := (List.getElem?_eq_some_iff.1 hx).1
      simp only; omega
  · intro i j t u hi hj htg hug htu
    unfold names at hi hj
    split at hi <;> split at hj
    · cases hi; cases hj; exact htu
    · cases hi
      obtain ⟨x, hx, rfl⟩ := Option.map_eq_some_iff.1 hj
      rw [(nameOf_real hug).2] at htu
      have := hge x (List.mem_of_getElem? hx)
      simp only at htu; omega
    · cases hj
      obtain ⟨x, hx, rfl⟩ := Option.map_eq_some_iff.1 hi
      rw [(nameOf_real htg).2] at htu
      have := hge x (List.mem_of_getElem? hx)
      simp only at htu; omega
    · obtain ⟨x, hx, rfl⟩ := Option.map_eq_some_iff.1 hi
      obtain ⟨y, hy, rfl⟩ := Option.map_eq_some_iff.1 hj
      rw [(nameOf_real htg).2, (nameOf_real hug).2] at htu
      simp only at htu; subst htu
      have := ids_inj hd hx hy (nameOf_real htg).1
      omega

end
end Go.Proofs.Yticaicdopfpknaa.Vm
