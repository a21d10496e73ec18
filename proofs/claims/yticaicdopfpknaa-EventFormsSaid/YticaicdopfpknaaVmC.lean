/- Code over a small heap: the rules of sequence, test, block, loop, call. No program in it. -/
import Derived.Test.YticaicdopfpknaaVmB
import Derived.Deep.LoopGhost
set_option linter.unusedVariables false
set_option linter.unusedSimpArgs false
namespace Go.Proofs.Yticaicdopfpknaa.Vm
open Go

/-- What is known at a point: some temporaries; the small heap; how many names there are. -/
structure St where
  env : List (Nat × Value)
  heap : Heap
  n : Nat

def lkp {α : Type} : List (Nat × α) → Nat → Option α
  | [], _ => none
  | (k, v) :: r, t => if t = k then some v else lkp r t

def EnvRel (ρ : Ren) (env : List (Nat × Value)) (tmps : Array Value) : Prop := ∀ t v, lkp env t = some v → ∃ v', tmps[t]? = some v' ∧ VRel ρ v v'

/-- A state of names and one of the run. m: how many temporaries the function has; g: how many names stay. -/
structure Rel (m g : Nat) (ρ : Ren) (s : St) (a : Act) (w : World) : Prop where
  bd : ∀ i, s.n ≤ i → ρ i = none
  old : g ≤ s.n
  sim : Sim ρ s.heap w
  env : EnvRel ρ s.env a.tmps
  size : a.tmps.size = m
  defers : a.defers = []

/-- What comes of it: an end that Q lets be. -/
def Post (m g : Nat) (Q : Exit → St → Prop) (ρ : Ren) (s : St) (w : World) : Exit → Act → World → Prop :=
  fun e a' w' => ∃ s' ρ', Q e s' ∧ Rel m g ρ' s' a' w' ∧ Keep ρ s.heap w ρ' s'.heap w' ∧ ∀ i, i < g → ρ' i = ρ i

def VW (P : Program) (m g : Nat) (c : Code) (Q : Exit → St → Prop) (s : St) : Prop :=
  ∀ ρ a w, Rel m g ρ s a w → c.wp P (Post m g Q ρ s w) a w

theorem VW.mono {P : Program} {m g : Nat} {c : Code} {Q Q' : Exit → St → Prop} {s : St} (h : VW P m g c Q s) (hq : ∀ e s, Q e s → Q' e s) : VW P m g c Q' s :=
  fun ρ a w hr => wp_mono (h ρ a w hr) fun _ _ _ ⟨s', ρ', hQ, r⟩ => ⟨s', ρ', hq _ _ hQ, r⟩

def then_ (N : St → Prop) (Q : Exit → St → Prop) : Exit → St → Prop
  | .normal, s => N s
  | e, s => Q e s

section
variable {P : Program} {m g : Nat} {Q : Exit → St → Prop} {s : St}

theorem post_trans {ρ ρ1 : Ren} {s s1 : St} {w w1 : World} (k : Keep ρ s.heap w ρ1 s1.heap w1) (e1 : ∀ i, i < g → ρ1 i = ρ i) {e : Exit} {a : Act} {w2 : World} (h : Post m g Q ρ1 s1 w1 e a w2) : Post m g Q ρ s w e a w2 :=
  let ⟨s', ρ', hq, hr, hk, hg⟩ := h; ⟨s', ρ', hq, hr, k.trans hk, fun i hi => (hg i hi).trans (e1 i hi)⟩

theorem vw_skip (h : Q .normal s) : VW P m g .skip Q s := fun ρ _ w hr => wp_skip ⟨s, ρ, h, hr, .refl _ _ _, fun _ _ => rfl⟩
theorem vw_ret (h : Q .ret s) : VW P m g .ret Q s := fun ρ _ w hr => wp_ret ⟨s, ρ, h, hr, .refl _ _ _, fun _ _ => rfl⟩
theorem vw_exit {id : Nat} (h : Q (.exit id) s) : VW P m g (.exit id) Q s := fun ρ _ w hr => wp_exit ⟨s, ρ, h, hr, .refl _ _ _, fun _ _ => rfl⟩

theorem vw_seq {x y : Code} (h : VW P m g x (then_ (VW P m g y Q) Q) s) : VW P m g (.seq x y) Q s := by
  intro ρ a w hr
  refine wp_seq (wp_mono (h ρ a w hr) ?_)
  rintro e a1 w1 ⟨s1, ρ1, hq, hr1, hk, hg1⟩
  cases e with
  | normal => exact wp_mono (hq ρ1 a1 w1 hr1) fun _ _ _ h2 => post_trans hk hg1 h2
  | _ => exact ⟨s1, ρ1, hq, hr1, hk, hg1⟩

theorem eval_tmp {ρ : Ren} {a : Act} {w : World} (hr : Rel m g ρ s a w) {t : Nat} {v : Value} (h : lkp s.env t = some v) : ∃ v', a.eval (.tmp t) = v' ∧ VRel ρ v v' := by
  obtain ⟨v', h1, h2⟩ := hr.env t v h
  exact ⟨v', by simp [Act.eval, h1], h2⟩

theorem vw_cond {t : Nat} {b : Bool} {x y : Code} (hc : lkp s.env t = some (.bool b)) (ht : b = true → VW P m g x Q s) (hf : b = false → VW P m g y Q s) : VW P m g (.cond (.tmp t) x y) Q s := by
  intro ρ a w hr
  obtain ⟨v', h1, h2⟩ := eval_tmp hr hc
  cases h2
  exact wp_cond_split h1 (fun e => ht e ρ a w hr) (fun e => hf e ρ a w hr)
theorem vw_cond_true {t : Nat} {x y : Code} (hc : lkp s.env t = some (.bool true)) (h : VW P m g x Q s) : VW P m g (.cond (.tmp t) x y) Q s := vw_cond hc (fun _ => h) nofun
theorem vw_cond_false {t : Nat} {x y : Code} (hc : lkp s.env t = some (.bool false)) (h : VW P m g y Q s) : VW P m g (.cond (.tmp t) x y) Q s := vw_cond hc nofun (fun _ => h)

def inBlock (id : Nat) (Q : Exit → St → Prop) : Exit → St → Prop
  | .exit id', s => if id' = id then Q .normal s else Q (.exit id') s
  | e, s => Q e s

theorem vw_block {id : Nat} {c : Code} (h : VW P m g c (inBlock id Q) s) : VW P m g (.block id c) Q s := by
  intro ρ a w hr
  refine wp_block (wp_mono (h ρ a w hr) ?_)
  rintro e a1 w1 ⟨s1, ρ1, hq, hr1, hk, hg1⟩
  cases e with
  | exit id' =>
    simp only [inBlock] at hq
    simp only [Exit.inBlock]
    split <;> rename_i he
    · rw [if_pos he] at hq; exact ⟨s1, ρ1, hq, hr1, hk, hg1⟩
    · rw [if_neg he] at hq; exact ⟨s1, ρ1, hq, hr1, hk, hg1⟩
  | _ => exact ⟨s1, ρ1, hq, hr1, hk, hg1⟩

/-- A loop by its relation and its measure. -/
theorem vw_loop {c : Code} (I : Nat → St → Prop) (k0 : Nat) (h0 : I k0 s)
    (round : ∀ k s, I k s → VW P m g c (then_ (fun s' => ∃ k', k' < k ∧ I k' s') Q) s) : VW P m g (.loop c) Q s := by
  intro ρ a w hr
  refine wp_loop_ghost (fun k a1 w1 => ∃ s1 ρ1, I k s1 ∧ Rel m g ρ1 s1 a1 w1 ∧ Keep ρ s.heap w ρ1 s1.heap w1 ∧ ∀ i, i < g → ρ1 i = ρ i) k0 ⟨s, ρ, h0, hr, .refl _ _ _, fun _ _ => rfl⟩ ?_
  rintro k a1 w1 ⟨s1, ρ1, hI, hr1, hk1, hg1⟩
  refine wp_mono (round k s1 hI ρ1 a1 w1 hr1) ?_
  rintro e a2 w2 ⟨s2, ρ2, hq, hr2, hk2, hg2⟩
  cases e with
  | normal =>
    obtain ⟨k', hlt, hI'⟩ := hq
    exact ⟨k', hlt, s2, ρ2, hI', hr2, hk1.trans hk2, fun i hi => (hg2 i hi).trans (hg1 i hi)⟩
  | _ => exact ⟨s2, ρ2, hq, hr2, hk1.trans hk2, fun i hi => (hg2 i hi).trans (hg1 i hi)⟩

/-- A loop's rounds, one by one. -/
def rounds (P : Program) (m g : Nat) (c : Code) (Q : Exit → St → Prop) : Nat → St → Prop
  | 0, _ => False
  | n + 1, s => VW P m g c (then_ (rounds P m g c Q n) Q) s

theorem vw_rounds {c : Code} (n : Nat) (h : rounds P m g c Q n s) : VW P m g (.loop c) Q s := by
  intro ρ a w hr
  refine wp_loop_rounds n ?_
  suffices H : ∀ n s1 ρ1 a1 w1, rounds P m g c Q n s1 → Rel m g ρ1 s1 a1 w1 → Keep ρ s.heap w ρ1 s1.heap w1 → (∀ i, i < g → ρ1 i = ρ i) → Code.rounds P c (Post m g Q ρ s w) n a1 w1 from H n s ρ a w h hr (.refl _ _ _) (fun _ _ => rfl)
  intro n
  induction n with
  | zero => intro s1 ρ1 a1 w1 h; exact h.elim
  | succ n ih =>
    intro s1 ρ1 a1 w1 h hr1 hk1 hg1
    rw [rounds_succ]
    refine wp_mono (h ρ1 a1 w1 hr1) ?_
    rintro e a2 w2 ⟨s2, ρ2, hq, hr2, hk2, hg2⟩
    cases e with
    | normal => exact ih s2 ρ2 a2 w2 hq hr2 (hk1.trans hk2) (fun i hi => (hg2 i hi).trans (hg1 i hi))
    | _ => exact ⟨s2, ρ2, hq, hr2, hk1.trans hk2, fun i hi => (hg2 i hi).trans (hg1 i hi)⟩

/-- Less may be known. -/
theorem vw_weaken {c : Code} {env' : List (Nat × Value)} {V' : Heap} (henv : ∀ t v, lkp env' t = some v → lkp s.env t = some v) (hh : ∀ i o, V' i = some o → s.heap i = some o)
    (h : VW P m g c Q ⟨env', V', s.n⟩) : VW P m g c Q s := by
  intro ρ a w hr
  refine wp_mono (h ρ a w ⟨hr.bd, hr.old, hr.sim.sub hh, fun t v hl => hr.env t v (henv t v hl), hr.size, hr.defers⟩) ?_
  rintro e a1 w1 ⟨s1, ρ1, hq, hr1, hk, hg1⟩
  refine ⟨s1, ρ1, hq, hr1, ?_, hg1⟩
  exact { hk with block := fun b hb hn => hk.block b hb (fun ⟨i, o, t, hm, r⟩ => hn ⟨i, o, t, hh i o hm, r⟩), new := fun b hb => (hk.new b hb).imp (fun ⟨i, o, t, hm, r⟩ => ⟨i, o, t, hh i o hm, r⟩) id }
end

/-- A heap, turned at some names. -/
def over (V : Heap) (L : List (Nat × Option VObj)) : Heap := fun i => (lkp L i).getD (V i)

theorem over_nil (V : Heap) : over V [] = V := rfl
theorem over_cons (V : Heap) (i : Nat) (o : Option VObj) (L : List (Nat × Option VObj)) : over V ((i, o) :: L) = upd (over V L) i o := by
  funext j
  simp only [over, lkp, upd]
  split <;> rfl

/-- A call: what it asks of a small heap, and what it gives: a value, what it turned, k names more from n on. -/
def Tri (P : Program) (f : FuncId) (args : List Value) (n k : Nat) (V : Heap) (R : Value → List (Nat × Option VObj) → Prop) : Prop :=
  ∀ ρ w args', (∀ i, n ≤ i → i < n + k → ρ i = none) → Sim ρ V w → LRel ρ args args' → Calls P f args'.toArray w fun e w' =>
    ∃ v L v' ρ', R v L ∧ e = .returned v' ∧ VRel ρ' v v' ∧ Sim ρ' (over V L) w' ∧ Keep ρ V w ρ' (over V L) w' ∧ ∀ i, ¬ (n ≤ i ∧ i < n + k) → ρ' i = ρ i

theorem Tri.mono {P : Program} {f : FuncId} {args : List Value} {n k : Nat} {V : Heap} {R R' : Value → List (Nat × Option VObj) → Prop} (h : Tri P f args n k V R) (hr : ∀ v L, R v L → R' v L) : Tri P f args n k V R' :=
  fun ρ w args' hl hs ha => (h ρ w args' hl hs ha).mono fun _ _ ⟨v, V', v', ρ', hR, r⟩ => ⟨v, V', v', ρ', hr _ _ hR, r⟩

end Go.Proofs.Yticaicdopfpknaa.Vm
