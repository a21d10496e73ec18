/- A row of operations whose order is left open, whole. No program in it. -/
import Derived.Test.YticaicdopfpknaaVmQ
set_option linter.unusedVariables false
set_option linter.unusedSimpArgs false
namespace Go.Proofs.Yticaicdopfpknaa.Vm
open Go

def ancF (T : List Nat) (es : List Edge) : Nat := es.foldr (fun e acc => if Region.binds .any e = true then (2 ^ e.on ||| T.getD e.on 0) ||| acc else acc) 0
/-- What each operation waits for, as bits. -/
def ancs (ops : List Oper) : List Nat := ops.foldl (fun T o => T ++ [ancF T o.after.toList]) []
def ancOk (T : List Nat) (ops : Array Oper) : Bool := (List.range ops.size).all fun j => match ops[j]? with
  | some o => T.getD j 0 == ancF T o.after.toList && o.after.toList.all fun e => !Region.binds .any e || decide (e.on < j)
  | none => true

theorem ancF_spec {T : List Nat} {a : Nat} : ∀ {es : List Edge}, (ancF T es).testBit a = true → ∃ e ∈ es, Region.binds .any e = true ∧ (e.on = a ∨ (T.getD e.on 0).testBit a = true)
  | [], h => by simp [ancF] at h
  | e :: es, h => by
    have key : ancF T (e :: es) = if Region.binds .any e = true then (2 ^ e.on ||| T.getD e.on 0) ||| ancF T es else ancF T es := rfl
    rw [key] at h
    split at h
    · rename_i hb
      simp only [Nat.testBit_or, Nat.testBit_two_pow, Bool.or_eq_true, decide_eq_true_eq] at h
      rcases h with h | h
      · exact ⟨e, List.mem_cons_self, hb, h⟩
      · obtain ⟨e', h1, h2⟩ := ancF_spec h
        exact ⟨e', List.mem_cons_of_mem _ h1, h2⟩
    · obtain ⟨e', h1, h2⟩ := ancF_spec h
      exact ⟨e', List.mem_cons_of_mem _ h1, h2⟩

def pairOk (T : List Nat) (x y : Item) : Bool := decide (x.i < y.i) && decide (x.nb + x.k ≤ y.nb) && (indep x y || (T.getD y.i 0).testBit x.i)
def pairsB (T : List Nat) : List Item → Bool
  | [] => true
  | x :: l => l.all (pairOk T x) && pairsB T l
def oneB (m lo hi : Nat) (x : Item) : Bool := x.fine && fitsT m x.d && decide (lo ≤ x.nb) && decide (x.nb + x.k ≤ hi)
def chk (m : Nat) (ops : Array Oper) (lo hi : Nat) (l : List Item) : Bool :=
  ancOk (ancs ops.toList) ops && l.all (oneB m lo hi) && pairsB (ancs ops.toList) l && (l.map (·.i) == List.range ops.size) && decide (lo ≤ hi)

theorem pairsB_spec {T : List Nat} : ∀ {l : List Item}, pairsB T l = true → l.Pairwise fun x y => pairOk T x y = true
  | [], _ => .nil
  | x :: l, h => by
    simp only [pairsB, Bool.and_eq_true] at h
    exact .cons (fun y hy => List.all_eq_true.1 h.1 y hy) (pairsB_spec h.2)

section
variable {P : Program} {τ : Nat → Option TI} {m g : Nat} {ops : Array Oper} {T : List Nat}

def Closed (ops : Array Oper) (listed : Array Bool) : Prop := ∀ j o, ops[j]? = some o → listed.getD j false = true → ∀ e ∈ o.after, Region.binds .any e = true → listed.getD e.on false = true

theorem ancOk_spec (hT : ancOk T ops = true) {j : Nat} {o : Oper} (ho : ops[j]? = some o) : T.getD j 0 = ancF T o.after.toList ∧ ∀ e ∈ o.after, Region.binds .any e = true → e.on < j := by
  have hj := (Array.getElem?_eq_some_iff.1 ho).1
  have := List.all_eq_true.1 hT j (List.mem_range.2 hj)
  simp only [ho, Bool.and_eq_true, beq_iff_eq, List.all_eq_true, Bool.or_eq_true, Bool.not_eq_eq_eq_not, Bool.not_true, decide_eq_true_eq] at this
  refine ⟨this.1, fun e he hb => ?_⟩
  rcases this.2 e (by simpa using he) with h | h
  · rw [hb] at h; cases h
  · exact h

theorem anc_listed (hT : ancOk T ops = true) {listed : Array Bool} (hc : Closed ops listed) : ∀ (j : Nat) (o : Oper), ops[j]? = some o → (∀ e ∈ o.after, Region.binds .any e = true → listed.getD e.on false = true) →
    ∀ a, (T.getD j 0).testBit a = true → listed.getD a false = true := by
  intro j
  induction j using Nat.strongRecOn with
  | _ j ih =>
    intro o ho hall a ha
    obtain ⟨h1, h2⟩ := ancOk_spec hT ho
    rw [h1] at ha
    obtain ⟨e, he, hb, hor⟩ := ancF_spec ha
    have he' : e ∈ o.after := by simpa using he
    have hl := hall e he' hb
    rcases hor with rfl | hor
    · exact hl
    · have hlt := h2 e he' hb
      have hj := (Array.getElem?_eq_some_iff.1 ho).1
      have hoe : ops[e.on]? = some ops[e.on] := by simp
      exact ih e.on hlt _ hoe (hc e.on _ hoe hl) a hor

theorem getD_tf {listed : Array Bool} {j : Nat} (h : j < listed.size) : listed.getD j true = listed.getD j false := by simp [h]

theorem any_of_row (hT : ancOk T ops = true) {Q : Exit → St → Prop} {s0 s1 : St} {ρ0 : Ren} {w0 : World} (hQ : Q .normal s1) (hg : g ≤ s1.n) : ∀ (fuel : Nat) (l : List Item) (listed : Array Bool) (E : TEnv) (V : Heap) (ρ : Ren) (a : Act) (w : World),
    l.length ≤ fuel → listed.size = ops.size → (∀ j, j < ops.size → (listed.getD j false = false ↔ ∃ x ∈ l, x.i = j)) → (∀ x ∈ l, x.i < ops.size) → Closed ops listed →
    (l.Pairwise fun x y => pairOk T x y = true) → (∀ x ∈ l, oneB m g s1.n x = true) → Row P m ops (fun E V => (∀ t, E t = lkp s1.env t) ∧ V = s1.heap) l E V →
    (∀ i, s1.n ≤ i → ρ i = none) → (∀ x ∈ l, ∀ j, x.nb ≤ j → j < x.nb + x.k → ρ j = none) → Sim ρ V w → EnvF ρ E a.tmps → a.tmps.size = m → a.defers = [] →
    Keep ρ0 s0.heap w0 ρ V w → (∀ i, i < g → ρ i = ρ0 i) → wpAny P .any ops (Post m g Q ρ0 s0 w0) fuel listed a w := by
  intro fuel
  have hend : ∀ (listed : Array Bool) (E : TEnv) (V : Heap) (ρ : Ren) (a : Act) (w : World), Row P m ops (fun E V => (∀ t, E t = lkp s1.env t) ∧ V = s1.heap) [] E V →
      (∀ i, s1.n ≤ i → ρ i = none) → Sim ρ V w → EnvF ρ E a.tmps → a.tmps.size = m → a.defers = [] → Keep ρ0 s0.heap w0 ρ V w → (∀ i, i < g → ρ i = ρ0 i) → Post m g Q ρ0 s0 w0 .normal a w := by
    rintro listed E V ρ a w ⟨hE, rfl⟩ hbd hs he hsz hd hk hg1
    exact ⟨s1, ρ, hQ, ⟨hbd, hg, hs, fun t v h => he t v (by rw [hE]; exact h), hsz, hd⟩, hk, hg1⟩
  have hempty : ∀ (l : List Item) (listed : Array Bool), listed.size = ops.size → (∀ j, j < ops.size → (listed.getD j false = false ↔ ∃ x ∈ l, x.i = j)) → (∀ x ∈ l, x.i < ops.size) → (l.Pairwise fun x y => pairOk T x y = true) →
      (Region.ready .any ops listed = [] ↔ l = []) := by
    intro l listed hsz hl hi hp
    constructor
    · intro hr
      cases l with
      | nil => rfl
      | cons x l =>
        exfalso
        have hx := hi x List.mem_cons_self
        have hm : x.i ∈ Region.ready .any ops listed := by
          rw [mem_ready]
          have hun := (hl x.i hx).2 ⟨x, List.mem_cons_self, rfl⟩
          have ho : ops[x.i]? = some ops[x.i] := by simp
          refine ⟨by rw [getD_tf (by omega)]; exact hun, ops[x.i], ho, fun e he hb => ?_⟩
          have hlt := (ancOk_spec hT ho).2 e he hb
          cases hc : listed.getD e.on false with
          | true => rfl
          | false =>
            obtain ⟨y, hy, hyi⟩ := (hl e.on (by omega)).1 hc
            rcases List.mem_cons.1 hy with rfl | hy
            · omega
            · have := List.rel_of_pairwise_cons hp hy
              simp only [pairOk, Bool.and_eq_true, decide_eq_true_eq] at this
              omega
        rw [hr] at hm; cases hm
    · rintro rfl
      cases hr : Region.ready .any ops listed with
      | nil => rfl
      | cons i r =>
        have hm : i ∈ Region.ready .any ops listed := by rw [hr]; exact List.mem_cons_self
        rw [mem_ready] at hm
        obtain ⟨h0, o, ho, _⟩ := hm
        have hi := (Array.getElem?_eq_some_iff.1 ho).1
        rw [getD_tf (by omega)] at h0
        obtain ⟨x, hx, _⟩ := (hl i hi).1 h0
        cases hx
  induction fuel with
  | zero =>
    intro l listed E V ρ a w hlen hsz hl hi hc hp ho hrow hbd hfr hs he hm hd hk hg1
    obtain rfl : l = [] := by cases l with | nil => rfl | cons x l => simp at hlen
    exact ⟨(hempty [] listed hsz hl hi hp).2 rfl, hend listed E V ρ a w hrow hbd hs he hm hd hk hg1⟩
  | succ fuel ih =>
    intro l listed E V ρ a w hlen hsz hl hi hc hp ho hrow hbd hfr hs he hm hd hk hg1
    refine ⟨fun hr => ?_, fun i hir => ?_⟩
    · obtain rfl := (hempty l listed hsz hl hi hp).1 hr
      exact hend listed E V ρ a w hrow hbd hs he hm hd hk hg1
    · rw [mem_ready] at hir
      obtain ⟨h0, o, hoi, hall⟩ := hir
      have hilt := (Array.getElem?_eq_some_iff.1 hoi).1
      rw [getD_tf (by omega)] at h0
      obtain ⟨x, hx, rfl⟩ := (hl i hilt).1 h0
      obtain ⟨l1, l2, rfl⟩ := List.append_of_mem hx
      have hanc := anc_listed hT hc x.i o hoi hall
      have hp' := List.pairwise_append.1 hp
      have hind : ∀ y ∈ l1, indep y x = true := by
        intro y hy
        have := hp'.2.2 y hy x List.mem_cons_self
        simp only [pairOk, Bool.and_eq_true, Bool.or_eq_true] at this
        rcases this.2 with h | h
        · exact h
        · have h1 := hanc y.i h
          have hym : y ∈ l1 ++ x :: l2 := List.mem_append_left _ hy
          have h2 := (hl y.i (hi y hym)).2 ⟨y, hym, rfl⟩
          rw [h1] at h2; cases h2
      obtain ⟨hdoes, hrow'⟩ := row_front hind hrow
      have hox := ho x hx
      simp only [oneB, Bool.and_eq_true, decide_eq_true_eq] at hox
      obtain ⟨⟨⟨hfine, hfit⟩, hlo⟩, hhi⟩ := hox
      have hfx := hfr x hx
      have hsub : ∀ i o, only x.rs V i = some o → V i = some o := by
        intro i o h; unfold only at h; split at h
        · exact h
        · cases h
      refine hdoes ρ a w ?_ hm (hs.sub hsub) hfx _ _ ?_
      · intro t v h
        unfold only at h
        split at h
        · exact he t v h
        · cases h
      intro v' ρ' w' hv hs' hk' hρ
      obtain ⟨hs2, hk2⟩ := does_all hfine hs hfx hs' hk' hρ
      have hmem : ∀ y, y ∈ l1 ++ l2 → y ∈ l1 ++ x :: l2 := fun y hy => by
        rcases List.mem_append.1 hy with h | h
        · exact List.mem_append_left _ h
        · exact List.mem_append_right _ (List.mem_cons_of_mem _ h)
      have hne : ∀ y, y ∈ l1 ++ l2 → y.i ≠ x.i ∧ (x.nb + x.k ≤ y.nb ∨ y.nb + y.k ≤ x.nb) := by
        intro y hy
        rcases List.mem_append.1 hy with h | h
        · have := hp'.2.2 y h x List.mem_cons_self
          simp only [pairOk, Bool.and_eq_true, decide_eq_true_eq] at this
          exact ⟨by omega, .inr (by omega)⟩
        · have := List.rel_of_pairwise_cons hp'.2.1 h
          simp only [pairOk, Bool.and_eq_true, decide_eq_true_eq] at this
          exact ⟨by omega, .inl (by omega)⟩
      have hget : ∀ j, j < ops.size → (listed.setIfInBounds x.i true).getD j false = if j = x.i then true else listed.getD j false := by
        intro j hj
        by_cases hji : j = x.i
        · subst hji; rw [if_pos rfl]; simp [hsz, hj]
        · rw [if_neg hji]; exact getD_set_ne false (Ne.symm hji)
      refine ih (l1 ++ l2) (listed.setIfInBounds x.i true) _ _ ρ' _ _ ?_ (by simpa using hsz) ?_ (fun y hy => hi y (hmem y hy)) ?_ ?_ (fun y hy => ho y (hmem y hy)) hrow' ?_ ?_ hs2 ?_ ?_ ?_ (hk.trans hk2) ?_
      · simp only [List.length_append, List.length_cons] at hlen ⊢; omega
      · intro j hj
        rw [hget j hj]
        split
        · rename_i he; subst he
          exact ⟨fun h => (by cases h), fun ⟨y, hy, hyi⟩ => ((hne y hy).1 hyi).elim⟩
        · rename_i hne'
          rw [hl j hj]
          constructor
          · rintro ⟨y, hy, rfl⟩
            rcases List.mem_append.1 hy with h | h
            · exact ⟨y, List.mem_append_left _ h, rfl⟩
            · rcases List.mem_cons.1 h with rfl | h
              · exact (hne' rfl).elim
              · exact ⟨y, List.mem_append_right _ h, rfl⟩
          · rintro ⟨y, hy, rfl⟩
            exact ⟨y, hmem y hy, rfl⟩
      · intro j oj hoj hlj e hee hb
        have hjlt := (Array.getElem?_eq_some_iff.1 hoj).1
        rw [hget j hjlt] at hlj
        have helt := (ancOk_spec hT hoj).2 e hee hb
        rw [hget e.on (by omega)]
        split
        · rfl
        · split at hlj
          · rename_i hji; subst hji
            rw [hoi] at hoj; cases hoj
            exact hall e hee hb
          · exact hc j oj hoj hlj e hee hb
      · exact hp.sublist (List.Sublist.append_left (List.sublist_cons_self x l2) l1)
      · intro i hi'
        rw [hρ i (by omega)]; exact hbd i hi'
      · intro y hy j h1 h2
        have := (hne y hy).2
        rw [hρ j (by omega)]; exact hfr y (hmem y hy) j h1 h2
      · have hext : Ext ρ ρ' := ext_of hfx hρ
        cases hxd : x.d with
        | none => exact fun t u h => let ⟨u', h1, h2⟩ := he t u h; ⟨u', h1, h2.mono hext⟩
        | some d =>
          rw [hxd] at hfit
          simp only [fitsT, decide_eq_true_eq] at hfit
          intro t u h
          simp only [putE] at h
          split at h
          · rename_i ht; subst ht; cases h
            exact ⟨v', by simp only [Act.put]; rw [Array.getElem?_setIfInBounds, if_pos rfl, if_pos (by omega)], hv⟩
          · rename_i ht
            obtain ⟨u', h1, h2⟩ := he t u h
            exact ⟨u', by simp only [Act.put]; rw [Array.getElem?_setIfInBounds_ne (by omega)]; exact h1, h2.mono hext⟩
      · cases x.d <;> simp [Act.put, hm]
      · cases x.d <;> simp [Act.put, hd]
      · intro i hi'
        rw [hρ i (by omega)]; exact hg1 i hi'

end
end Go.Proofs.Yticaicdopfpknaa.Vm
