/- A row of operations whose order is left open: if each works on what no unordered one touches, any order does as the written one. No program in it. -/
import Derived.Test.YticaicdopfpknaaVmM
import Derived.Orders
set_option linter.unusedVariables false
set_option linter.unusedSimpArgs false
namespace Go.Proofs.Yticaicdopfpknaa.Vm
open Go

abbrev TEnv := Nat → Option Value
def EnvF (ρ : Ren) (E : TEnv) (tmps : Array Value) : Prop := ∀ t v, E t = some v → ∃ v', tmps[t]? = some v' ∧ VRel ρ v v'
def only {α : Type} (l : List Nat) (f : Nat → Option α) : Nat → Option α := fun i => if l.contains i then f i else none
def putE (d : Option Nat) (v : Value) (E : TEnv) : TEnv := match d with
  | some d => fun t => if t = d then some v else E t
  | none => E

structure Item where
  i : Nat
  d : Option Nat
  looks : List Nat
  v : Value
  L : List (Nat × Option VObj)
  nb : Nat
  k : Nat
  rs : List Nat

def Item.names (x : Item) : List Nat := x.L.map (·.1)

/-- What it turns is its own, or new; and no argument's. -/
def Item.fine (x : Item) : Bool := x.L.all fun p => (x.rs.contains p.1 || (decide (x.nb ≤ p.1) && decide (p.1 < x.nb + x.k))) && match p.2 with
  | some o => !o.fixed || o.isEmp
  | none => true

def apartL (a b : List Nat) : Bool := a.all fun x => !b.contains x

/-- Neither touches what the other turns. -/
def indep (x y : Item) : Bool :=
  (match x.d with | some d => !y.looks.contains d && !(y.d == some d) | none => true) && (match y.d with | some d => !x.looks.contains d | none => true) &&
  apartL x.names y.rs && apartL x.names y.names && apartL y.names x.rs

theorem only_of_same {α : Type} {l : List Nat} {f f' : Nat → Option α} (h : ∀ i, l.contains i = true → f' i = f i) : only l f' = only l f := by
  funext i
  unfold only
  split
  · rename_i hi; exact h i hi
  · rfl

theorem apartL_spec {a b : List Nat} (h : apartL a b = true) {x : Nat} (ha : x ∈ a) : b.contains x = false := by
  have := List.all_eq_true.1 h x ha
  simpa using this

theorem lkp_none {α : Type} : ∀ {L : List (Nat × α)} {i : Nat}, i ∉ L.map (·.1) → lkp L i = none
  | [], _, _ => rfl
  | (k, v) :: r, i, h => by
    simp only [List.map_cons, List.mem_cons, not_or] at h
    simp only [lkp, if_neg h.1]
    exact lkp_none h.2

theorem lkp_mem {α : Type} : ∀ {L : List (Nat × α)} {i : Nat} {v : α}, lkp L i = some v → (i, v) ∈ L
  | (k, u) :: r, i, v, h => by
    simp only [lkp] at h
    split at h
    · rename_i he; subst he; cases h; exact List.mem_cons_self
    · exact List.mem_cons_of_mem _ (lkp_mem h)

theorem over_same {V : Heap} {L : List (Nat × Option VObj)} {i : Nat} (h : i ∉ L.map (·.1)) : over V L i = V i := by
  unfold over; rw [lkp_none h]; rfl

/-- It does what it should, from any state that is as (E, V) where it looks. -/
def Does (P : Program) (m : Nat) (ops : Array Oper) (x : Item) (E : TEnv) (V : Heap) : Prop :=
  ∀ ρ (a : Act) w, EnvF ρ (only x.looks E) a.tmps → a.tmps.size = m → Sim ρ (only x.rs V) w → (∀ j, x.nb ≤ j → j < x.nb + x.k → ρ j = none) → ∀ (K : Act → World → Prop) (Q : Exit → Act → World → Prop),
    (∀ v' ρ' w', VRel ρ' x.v v' → Sim ρ' (over (only x.rs V) x.L) w' → Keep ρ (only x.rs V) w ρ' (over (only x.rs V) x.L) w' → (∀ j, ¬ (x.nb ≤ j ∧ j < x.nb + x.k) → ρ' j = ρ j) → K (a.put x.d v') w') →
    wpOp P ops Q x.i K a w

theorem Does.same {P : Program} {m : Nat} {ops : Array Oper} {x : Item} {E E' : TEnv} {V V' : Heap} (h : Does P m ops x E V) (hE : only x.looks E' = only x.looks E) (hV : only x.rs V' = only x.rs V) : Does P m ops x E' V' := by
  unfold Does at *
  rw [hE, hV]; exact h

def Row (P : Program) (m : Nat) (ops : Array Oper) (G : TEnv → Heap → Prop) : List Item → TEnv → Heap → Prop
  | [], E, V => G E V
  | x :: l, E, V => Does P m ops x E V ∧ Row P m ops G l (putE x.d x.v E) (over V x.L)

section
variable {P : Program} {m g : Nat} {ops : Array Oper} {G : TEnv → Heap → Prop}

theorem only_put {d : Option Nat} {v : Value} {E : TEnv} {l : List Nat} (h : match d with | some d => l.contains d = false | none => True) : only l (putE d v E) = only l E := by
  refine only_of_same fun i hi => ?_
  cases d with
  | none => rfl
  | some d =>
    simp only at h
    simp only [putE]
    split
    · rename_i he; subst he; rw [hi] at h; cases h
    · rfl

theorem only_over {V : Heap} {L : List (Nat × Option VObj)} {l : List Nat} (h : apartL (L.map (·.1)) l = true) : only l (over V L) = only l V := by
  refine only_of_same fun i hi => over_same fun hm => ?_
  have := apartL_spec h hm
  rw [hi] at this; cases this

theorem indep_spec {x y : Item} (h : indep x y = true) : (match x.d with | some d => y.looks.contains d = false | none => True) ∧ (∀ d, x.d = some d → y.d ≠ some d) ∧ (match y.d with | some d => x.looks.contains d = false | none => True) ∧
    apartL x.names y.rs = true ∧ apartL x.names y.names = true ∧ apartL y.names x.rs = true := by
  unfold indep at h
  simp only [Bool.and_eq_true] at h
  obtain ⟨⟨⟨⟨h1, h2⟩, h3⟩, h4⟩, h5⟩ := h
  refine ⟨?_, ?_, ?_, h3, h4, h5⟩
  · cases hx : x.d with
    | none => trivial
    | some d =>
      rw [hx] at h1
      simp only [Bool.and_eq_true, Bool.not_eq_eq_eq_not, Bool.not_true] at h1
      exact h1.1
  · intro d hd he
    rw [hd] at h1
    simp [he] at h1
  · cases hy : y.d with
    | none => trivial
    | some d =>
      rw [hy] at h2
      simpa using h2

theorem row_swap {x y : Item} {l : List Item} {E : TEnv} {V : Heap} (hi : indep x y = true) (h : Row P m ops G (x :: y :: l) E V) : Row P m ops G (y :: x :: l) E V := by
  obtain ⟨hx, hy, hl⟩ := h
  obtain ⟨i1, i2, i3, i4, i5, i6⟩ := indep_spec hi
  refine ⟨hy.same (only_put i1).symm (only_over i4).symm, hx.same (only_put i3) (only_over i6), ?_⟩
  have e1 : putE x.d x.v (putE y.d y.v E) = putE y.d y.v (putE x.d x.v E) := by
    funext t
    cases hx : x.d with
    | none => rfl
    | some d =>
      cases hy : y.d with
      | none => rfl
      | some e =>
        have := i2 d hx
        rw [hy] at this
        have hne : e ≠ d := fun h => this (by rw [h])
        simp only [putE]
        by_cases h1 : t = d
        · subst h1; rw [if_pos rfl, if_neg (Ne.symm hne), if_pos rfl]
        · rw [if_neg h1, if_neg h1]
  have e2 : over (over V y.L) x.L = over (over V x.L) y.L := by
    funext j
    by_cases hj : j ∈ x.L.map (·.1)
    · have h1 : j ∉ y.L.map (·.1) := fun hm => by
        have := apartL_spec i5 hj
        simp only [Item.names] at this
        simp only [List.contains_eq_mem, decide_eq_false_iff_not] at this
        exact this hm
      rw [over_same h1]
      simp only [over, lkp_none h1, Option.getD_none]
    · rw [over_same hj]
      simp only [over, lkp_none hj, Option.getD_none]
  rw [e1, e2]; exact hl

theorem row_front {x : Item} {l2 : List Item} : ∀ {l1 : List Item} {E : TEnv} {V : Heap}, (∀ y ∈ l1, indep y x = true) → Row P m ops G (l1 ++ x :: l2) E V → Row P m ops G (x :: (l1 ++ l2)) E V
  | [], _, _, _, h => h
  | y :: l1, E, V, hi, h => row_swap (hi y List.mem_cons_self) ⟨h.1, row_front (fun z hz => hi z (List.mem_cons_of_mem _ hz)) h.2⟩

/-- Of what one works on, to all. -/
theorem does_all {ρ ρ' : Ren} {V : Heap} {w w' : World} {x : Item} (hf : x.fine = true) (hs : Sim ρ V w) (hn : ∀ j, x.nb ≤ j → j < x.nb + x.k → ρ j = none)
    (hs' : Sim ρ' (over (only x.rs V) x.L) w') (hk : Keep ρ (only x.rs V) w ρ' (over (only x.rs V) x.L) w') (hρ : ∀ j, ¬ (x.nb ≤ j ∧ j < x.nb + x.k) → ρ' j = ρ j) :
    Sim ρ' (over V x.L) w' ∧ Keep ρ V w ρ' (over V x.L) w' := by
  have hext : Ext ρ ρ' := by
    intro i t ht
    by_cases hi : x.nb ≤ i ∧ i < x.nb + x.k
    · rw [hn i hi.1 hi.2] at ht; cases ht
    · rw [hρ i hi]; exact ht
  have honly : ∀ i o, only x.rs V i = some o → V i = some o ∧ x.rs.contains i = true := by
    intro i o h
    unfold only at h
    split at h
    · exact ⟨h, ‹_›⟩
    · cases h
  have hL : ∀ i o, lkp x.L i = some (some o) → o.fixed = false ∨ o.isEmp = true := by
    intro i o h
    have := List.all_eq_true.1 hf _ (lkp_mem h)
    simp only [Bool.and_eq_true, Bool.or_eq_true, Bool.not_eq_eq_eq_not, Bool.not_true] at this
    exact this.2
  -- inside or outside
  have hcase : ∀ i o, over V x.L i = some o → over (only x.rs V) x.L i = some o ∧ ((o.fixed = false ∨ o.isEmp = true) ∧ lkp x.L i = some (some o) ∨ V i = some o ∧ x.rs.contains i = true) ∨ (V i = some o ∧ x.rs.contains i = false ∧ ∃ s, ρ i = some s ∧ ρ' i = some s ∧ (s.gone = false → s.blk < w.heap.size)) := by
    intro i o h
    unfold over at h ⊢
    cases hl : lkp x.L i with
    | some y =>
      rw [hl] at h
      simp only [Option.getD_some] at h
      subst h
      exact .inl ⟨rfl, .inl ⟨hL i o hl, rfl⟩⟩
    | none =>
      rw [hl] at h
      simp only [Option.getD_none] at h ⊢
      cases hc : x.rs.contains i with
      | true => exact .inl ⟨by unfold only; rw [if_pos hc]; exact h, .inr ⟨h, rfl⟩⟩
      | false =>
        obtain ⟨s, h1, _⟩ := hs.has i o h
        refine .inr ⟨h, rfl, s, h1, hext _ _ h1, fun hg => ?_⟩
        obtain ⟨_, h2, _⟩ := hs.at_ h h1 hg
        exact (Array.getElem?_eq_some_iff.1 h2).1
  have hout : ∀ i o s, V i = some o → x.rs.contains i = false → ρ i = some s → s.gone = false → ¬ Blks ρ (only x.rs V) s.blk := by
    rintro i o s hV hc hi hsg ⟨j, p, t, hj, hpf, ht, htg, hb⟩
    obtain ⟨h1, h2⟩ := honly j p hj
    have hne : i ≠ j := fun e => by rw [e, h2] at hc; cases hc
    exact hs.apart i j o p s t hne hV h1 hi ht hsg htg (by simp [hpf]) hb.symm
  have hblk : ∀ b, Blks ρ (only x.rs V) b → Blks ρ V b := fun b ⟨j, p, t, hj, r⟩ => ⟨j, p, t, (honly j p hj).1, r⟩
  refine ⟨⟨?_, ?_⟩, hk.os, hk.tape, hk.output, hk.size, fun b hb hn => hk.block b hb fun h => hn (hblk b h), ?_⟩
  · intro i o hi
    rcases hcase i o hi with ⟨h, _⟩ | ⟨h, hc, s, h1, h2, h3⟩
    · exact hs'.has i o h
    · obtain ⟨s', g1, g2⟩ := hs.has i o h
      rw [h1] at g1; cases g1
      exact ⟨s, h2, g2.mono hext fun hg => hk.block _ (h3 hg) (hout i o s h hc h1 hg)⟩
  · have mixed : ∀ i j o p s t, over (only x.rs V) x.L i = some o → ((o.fixed = false ∨ o.isEmp = true) ∧ lkp x.L i = some (some o) ∨ V i = some o ∧ x.rs.contains i = true) → V j = some p → x.rs.contains j = false → ρ' i = some s → ρ j = some t → s.gone = false → t.gone = false → t.blk < w.heap.size →
        (o.fixed && p.fixed) = false → s.blk ≠ t.blk := by
      intro i j o p s t hi hio hj hjc hs1 ht1 hsg htg hlt hfx heq
      rcases hio with ⟨h1, h2⟩ | ⟨h1, h2⟩
      · rcases h1 with h1 | h1
        · rcases hk.new s.blk ⟨i, o, s, hi, h1, hs1, hsg, rfl⟩ with h | h
          · rw [heq] at h; exact hout j p t hj hjc ht1 htg h
          · omega
        · obtain ⟨s', g1, g2⟩ := hs'.has i o hi
          rw [hs1] at g1; cases g1
          rw [g2.emp h1] at hsg; cases hsg
      · obtain ⟨s', g1, _⟩ := hs.has i o h1
        have := hext _ _ g1
        rw [hs1] at this; cases this
        have hne : i ≠ j := fun e => by rw [e, hjc] at h2; cases h2
        exact hs.apart i j o p s t hne h1 hj g1 ht1 hsg htg hfx heq
    intro i j o p s t hij hi hj hs1 ht1 hsg htg hfx
    rcases hcase i o hi with ⟨h, hh⟩ | ⟨h, hc, s', h1, h2, h3⟩ <;> rcases hcase j p hj with ⟨k, kk⟩ | ⟨k, kc, t', k1, k2, k3⟩
    · exact hs'.apart i j o p s t hij h k hs1 ht1 hsg htg hfx
    · rw [k2] at ht1; cases ht1
      exact mixed i j o p s t h hh k kc hs1 k1 hsg htg (k3 htg) hfx
    · rw [h2] at hs1; cases hs1
      exact (mixed j i p o t s k kk h hc ht1 h1 htg hsg (h3 hsg) (by rw [Bool.and_comm]; exact hfx)).symm
    · rw [h2] at hs1; cases hs1
      rw [k2] at ht1; cases ht1
      exact hs.apart i j o p s t hij h k h1 k1 hsg htg hfx
  · rintro b ⟨i, o, s, hi, hof, hs1, hsg, rfl⟩
    rcases hcase i o hi with ⟨h, _⟩ | ⟨h, hc, s', h1, h2, h3⟩
    · exact (hk.new _ ⟨i, o, s, h, hof, hs1, hsg, rfl⟩).imp (hblk _) id
    · rw [h2] at hs1; cases hs1
      exact .inl ⟨i, o, s, h, hof, h1, hsg, rfl⟩

end
end Go.Proofs.Yticaicdopfpknaa.Vm
