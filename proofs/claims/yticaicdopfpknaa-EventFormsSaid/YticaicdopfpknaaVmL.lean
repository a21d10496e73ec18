/- Operations in a row; a call; a function's body. No program in it. -/
import Derived.Test.YticaicdopfpknaaVmK
import Derived.Tactics
set_option linter.unusedVariables false
set_option linter.unusedSimpArgs false
namespace Go.Proofs.Yticaicdopfpknaa.Vm
open Go

/-- What is known of the types that a proof meets. -/
structure Tab (P : Program) (τ : Nat → Option TI) : Prop where
  ok : TyOk P τ
  zs : ∀ t ti, τ t = some ti → ti.zero.cells.size = ti.size

/-- One type's row. -/
structure One (P : Program) (t : Nat) (i : TI) : Prop where
  under : P.underlying t = some i.desc
  info : (P.info? t).map (fun f => (f.size, f.bytes, f.zero, f.comparable)) = some (i.size, i.bytes, some i.zero, i.cmp)
  zero : ∀ ρ, VRel ρ i.zero i.zero
  eqOk : i.eqOk = true → P.stoodInHeld t = false ∧ P.eqGuardType P.depth t = false
  zs : i.zero.cells.size = i.size

theorem tab_of {P : Program} {τ : Nat → Option TI} (h : ∀ t i, τ t = some i → One P t i) : Tab P τ := by
  have hi : ∀ t i, τ t = some i → ∃ f, P.info? t = some f ∧ f.size = i.size ∧ f.bytes = i.bytes ∧ f.zero = some i.zero ∧ f.comparable = i.cmp := by
    intro t i ht
    obtain ⟨f, hf, he⟩ := Option.map_eq_some_iff.1 (h t i ht).info
    simp only [Prod.mk.injEq] at he
    exact ⟨f, hf, he.1, he.2.1, he.2.2.1, he.2.2.2⟩
  exact ⟨⟨fun t i ht => (h t i ht).under, fun t i ht => let ⟨f, a, b, c, d, _⟩ := hi t i ht; ⟨f, a, b, c, d⟩, fun t i ht => (h t i ht).zero,
    fun t i ht hc => let ⟨f, a, _, _, _, e⟩ := hi t i ht; ⟨f, a, e.trans hc⟩, fun t i ht => (h t i ht).eqOk⟩, fun t i ht => (h t i ht).zs⟩

def VL (P : Program) (m g : Nat) (ops : Array Oper) (Q : Exit → St → Prop) (l : List Oper) (s : St) : Prop :=
  ∀ ρ a w, Rel m g ρ s a w → wpList P ops (Post m g Q ρ s w) l a w

def bindT (dst : Option Nat) (v : Value) (env : List (Nat × Value)) : List (Nat × Value) :=
  match dst with
  | some d => (d, v) :: env
  | none => env

/-- Are the temporaries written within the function's? -/
def fitsT (m : Nat) : Option Nat → Bool
  | some d => decide (d < m)
  | none => true

section
variable {P : Program} {τ : Nat → Option TI} {m g : Nat} {Q : Exit → St → Prop} {s : St} {ops : Array Oper} {l : List Oper} {o : Oper}

theorem rel_rd {ρ : Ren} {a : Act} {w : World} (hr : Rel m g ρ s a w) : Rd ρ s.env a.eval := fun x v h => rd_ok hr h

theorem env_put {ρ : Ren} {a : Act} {w : World} (hr : Rel m g ρ s a w) {ρ' : Ren} (he : Ext ρ ρ') {d : Option Nat} (hd : fitsT m d = true) {v v' : Value} (hv : VRel ρ' v v') : EnvRel ρ' (bindT d v s.env) (a.put d v').tmps := by
  cases d with
  | none => exact fun t u h => let ⟨u', h1, h2⟩ := hr.env t u h; ⟨u', h1, h2.mono he⟩
  | some d =>
    intro t u h
    simp only [bindT, lkp] at h
    have hsz := hr.size
    simp only [fitsT, decide_eq_true_eq] at hd
    split at h
    · rename_i ht; subst ht; cases h
      exact ⟨v', by simp only [Act.put]; rw [Array.getElem?_setIfInBounds, if_pos rfl, if_pos (by omega)], hv⟩
    · rename_i ht
      obtain ⟨u', h1, h2⟩ := hr.env t u h
      exact ⟨u', by simp only [Act.put]; rw [Array.getElem?_setIfInBounds_ne (by omega)]; exact h1, h2.mono he⟩

theorem ext_of {ρ ρ' : Ren} {n k : Nat} (hn : ∀ i, n ≤ i → i < n + k → ρ i = none) (h : ∀ i, ¬ (n ≤ i ∧ i < n + k) → ρ' i = ρ i) : Ext ρ ρ' := by
  intro i t ht
  by_cases hi : n ≤ i ∧ i < n + k
  · rw [hn i hi.1 hi.2] at ht; cases ht
  · rw [h i hi]; exact ht

/-- Behind an operation, or a call. -/
theorem rel_next {ρ ρ' : Ren} {a : Act} {w w' : World} (hr : Rel m g ρ s a w) {d : Option Nat} (hd : fitsT m d = true) {v v' : Value} {L : List (Nat × Option VObj)} {k : Nat} (hv : VRel ρ' v v')
    (hs : Sim ρ' (over s.heap L) w') (hρ : ∀ i, ¬ (s.n ≤ i ∧ i < s.n + k) → ρ' i = ρ i) : Rel m g ρ' ⟨bindT d v s.env, over s.heap L, s.n + k⟩ (a.put d v') w' where
  bd i hi := by simp only at hi; rw [hρ i (by omega)]; exact hr.bd i (by omega)
  old := Nat.le_trans hr.old (Nat.le_add_right _ _)
  sim := hs
  env := env_put hr (ext_of (fun i h1 _ => hr.bd i h1) hρ) hd hv
  size := by cases d <;> simp [Act.put, hr.size]
  defers := by cases d <;> simp [Act.put, hr.defers]

theorem old_same {ρ ρ' : Ren} {a : Act} {w : World} (hr : Rel m g ρ s a w) {k : Nat} (hρ : ∀ i, ¬ (s.n ≤ i ∧ i < s.n + k) → ρ' i = ρ i) : ∀ i, i < g → ρ' i = ρ i :=
  fun i hi => hρ i (by have := hr.old; omega)

theorem post_list {ρ ρ1 : Ren} {s1 : St} {w w1 : World} (k : Keep ρ s.heap w ρ1 s1.heap w1) (e1 : ∀ i, i < g → ρ1 i = ρ i) {a : Act} (h : wpList P ops (Post m g Q ρ1 s1 w1) l a w1) : wpList P ops (Post m g Q ρ s w) l a w1 := by
  suffices H : ∀ (l : List Oper) a w2, wpList P ops (Post m g Q ρ1 s1 w1) l a w2 → wpList P ops (Post m g Q ρ s w) l a w2 from H l a w1 h
  have hp : ∀ e a w2, Post m g Q ρ1 s1 w1 e a w2 → Post m g Q ρ s w e a w2 := fun e a w2 h => post_trans k e1 h
  have hout : LetsOut (Post m g Q ρ1 s1 w1) → LetsOut (Post m g Q ρ s w) := fun ⟨a, w, h⟩ => ⟨a, w, hp _ _ _ h⟩
  intro l
  induction l with
  | nil => exact fun a w2 h => hp _ _ _ h
  | cons o rest ih =>
    intro a w2 h
    simp only [wpList] at h ⊢
    split
    · rename_i hw
      rw [if_pos hw] at h
      refine h.imp (fun h => ?_) (fun ⟨h1, h2⟩ => ⟨h1, hout h2⟩)
      unfold Oper.wp at h ⊢
      generalize (execOp a.eval o).run P w2 = r at *
      cases r with
      | ok n w' =>
        cases n <;> simp only [Oper.upon] at h ⊢ <;> first
          | exact ih _ _ h
          | exact Calls.mono h (fun e w'' he => by cases e <;> first | exact ih _ _ he | exact hp _ _ _ he | exact hout he)
          | exact Rows.mono h (fun _ _ he => ih _ _ he)
      | halt x w' => cases x <;> simp only [Oper.upon] at h ⊢ <;> exact hp _ _ _ h
    · rename_i hw
      rw [if_neg hw] at h
      exact ih _ _ h

theorem vl_nil (h : Q .normal s) : VL P m g ops Q [] s := fun ρ _ w hr => ⟨s, ρ, h, hr, .refl _ _ _, fun _ _ => rfl⟩

theorem vw_region {id : Nat} (h : VL P m g ops Q ops.toList s) : VW P m g (.region id ops false) Q s := fun ρ a w hr => wp_region_list (h ρ a w hr)

/-- Is it done? -/
def Want (ops : Array Oper) (env : List (Nat × Value)) (o : Oper) (b : Bool) : Prop :=
  match o.guard with
  | none => b = true
  | some (j, want) => ∃ d c, (ops[j]?).bind (·.dst) = some d ∧ lkp env d = some (.bool c) ∧ b = (c == want)

theorem want_ok {ρ : Ren} {a : Act} {w : World} (hr : Rel m g ρ s a w) {b : Bool} (h : Want ops s.env o b) : Region.wanted o (yielded ops a.tmps) = b := by
  unfold Want at h
  unfold Region.wanted
  split at h
  · rename_i hg; rw [hg]; exact h.symm
  · rename_i j want hg
    obtain ⟨d, c, h1, h2, rfl⟩ := h
    obtain ⟨v', h3, h4⟩ := hr.env d _ h2
    cases h4
    rw [hg]
    simp only [yielded, h1, Option.bind_some, h3]
    cases c <;> cases want <;> rfl

theorem vl_op (hτ : Tab P τ) {r : Res} (hw : Want ops s.env o true) (hd : fitsT m o.dst = true) (h : evOp τ s.env s.heap s.n o.op = some r)
    (K : VL P m g ops Q l ⟨bindT o.dst r.v s.env, over s.heap r.L, s.n + r.k⟩) : VL P m g ops Q (o :: l) s := by
  intro ρ a w hr
  simp only [wpList]
  rw [if_pos (want_ok hr hw)]
  obtain ⟨v', w', ρ', h1, h2, h3, h4, h5⟩ := evOp_ok hτ.ok hτ.zs hr.sim (rel_rd hr) (fun i h1 _ => hr.bd i h1) h
  have hnext := post_list h4 (old_same hr h5) (K ρ' _ w' (rel_next hr hd h2 h3 h5))
  refine .inl ?_
  unfold Oper.wp
  rcases h1 with h1 | ⟨h1, rfl⟩
  · rw [h1]; exact hnext
  · rw [h1]; exact hnext

/-- An operation that is passed over. -/
theorem vl_skip (hw : Want ops s.env o false) (hd : fitsT m o.dst = true) (K : VL P m g ops Q l ⟨bindT o.dst undef s.env, s.heap, s.n⟩) : VL P m g ops Q (o :: l) s := by
  intro ρ a w hr
  simp only [wpList]
  rw [if_neg (by rw [want_ok hr hw]; simp)]
  have hu : VRel ρ undef undef := vrel_tuple lrel_nil
  exact K ρ _ w (rel_next (L := []) (k := 0) hr hd hu hr.sim (fun _ _ => rfl))

theorem wanted_undef {ρ : Ren} {tmps : Array Value} {j : Nat} {want : Bool} {d : Nat} {v' : Value} (hg : o.guard = some (j, want)) (h1 : (ops[j]?).bind (·.dst) = some d) (h2 : tmps[d]? = some v') (hv : VRel ρ undef v') : Region.wanted o (yielded ops tmps) = false := by
  unfold Region.wanted
  rw [hg]
  simp only [yielded, h1, Option.bind_some, h2]
  cases hv; rfl

/-- One whose test was passed over. -/
theorem vl_skip_undef {j : Nat} {want : Bool} {d : Nat} (hg : o.guard = some (j, want)) (h1 : (ops[j]?).bind (·.dst) = some d) (h2 : lkp s.env d = some undef) (hd : fitsT m o.dst = true) (K : VL P m g ops Q l ⟨bindT o.dst undef s.env, s.heap, s.n⟩) : VL P m g ops Q (o :: l) s := by
  intro ρ a w hr
  simp only [wpList]
  obtain ⟨v', h3, h4⟩ := hr.env d _ h2
  rw [if_neg (by rw [wanted_undef hg h1 h3 h4]; simp)]
  have hu : VRel ρ undef undef := vrel_tuple lrel_nil
  exact K ρ _ w (rel_next (L := []) (k := 0) hr hd hu hr.sim (fun _ _ => rfl))

/-- A test that parts. -/
theorem vl_guard {j : Nat} {want : Bool} {d : Nat} {c : Bool} (hg : o.guard = some (j, want)) (h1 : (ops[j]?).bind (·.dst) = some d) (h2 : lkp s.env d = some (.bool c))
    (ht : c = want → VL P m g ops Q (o :: l) ⟨(d, .bool want) :: s.env, s.heap, s.n⟩) (hf : c = !want → VL P m g ops Q (o :: l) ⟨(d, .bool (!want)) :: s.env, s.heap, s.n⟩) : VL P m g ops Q (o :: l) s := by
  intro ρ a w hr
  have key : ∀ b, c = b → Rel m g ρ ⟨(d, .bool b) :: s.env, s.heap, s.n⟩ a w := by
    rintro b rfl
    refine ⟨hr.bd, hr.old, hr.sim, ?_, hr.size, hr.defers⟩
    intro t u h
    simp only [lkp] at h
    split at h
    · rename_i he; subst he; cases h; exact hr.env _ _ h2
    · exact hr.env t u h
  by_cases hc : c = want
  · exact ht hc ρ a w (key _ hc)
  · have hc' : c = !want := by cases c <;> cases want <;> first | rfl | exact (hc rfl).elim
    exact hf hc' ρ a w (key _ hc')

/-- A function that can be called. -/
def Callable (P : Program) (F : FuncId) : Prop := ∃ fn, P.funcs[F]? = some fn ∧ (fn.name == "runtime.NumGoroutine") = false ∧ fn.body.isNone = false

theorem vl_call {F : FuncId} {f : Operand} {args : Array Operand} {ats : Array TypeId} {va vb vc : List Value} {k : Nat} {R : Value → List (Nat × Option VObj) → Prop} (hw : Want ops s.env o true) (hd : fitsT m o.dst = true)
    (ho : o.op = .call { callee := .value f, args, argTypes := ats }) (hf : rd s.env f = some (.func (.func F) va.toArray vc.toArray)) (ha : rds s.env args.toList = some vb) (hF : Callable P F)
    (T : Tri P F (va ++ vb ++ vc) s.n k s.heap R) (K : ∀ v L, R v L → VL P m g ops Q l ⟨bindT o.dst v s.env, over s.heap L, s.n + k⟩) : VL P m g ops Q (o :: l) s := by
  intro ρ a w hr
  simp only [wpList]
  rw [if_pos (want_ok hr hw)]
  refine .inl ?_
  have h1 := rel_rd hr _ _ hf
  have h2 := rds_ok (rel_rd hr) ha
  generalize hx : a.eval f = x at h1
  cases h1 with
  | @func _ f1 f1' c1 c1' hs1 hv1 hs2 hv2 =>
  obtain ⟨fn, hfn, hn1, hn2⟩ := hF
  have hl1 : LRel ρ va f1'.toList := ⟨by simpa using hs1, fun i v v' p q => hv1 i v v' (by simpa using p) (by simpa using q)⟩
  have hl3 : LRel ρ vc c1'.toList := ⟨by simpa using hs2, fun i v v' p q => hv2 i v v' (by simpa using p) (by simpa using q)⟩
  have hall := lrel_append (lrel_append hl1 h2) hl3
  have hrun : (execOp a.eval o).run P w = .ok (.enter F (f1'.toList ++ args.toList.map a.eval ++ c1'.toList).toArray) w := by
    unfold execOp
    rw [ho]
    have hn1' : ¬ fn.name = "runtime.NumGoroutine" := by simpa using hn1
    have hb : ¬ fn.body = none := by intro e; rw [e] at hn2; cases hn2
    have he : (f1'.toList ++ args.toList.map a.eval ++ c1'.toList).toArray = f1' ++ args.map a.eval ++ c1' := by apply Array.ext'; simp
    simp [resolve, hx, Deferred.ofValue, invoke, callFunc, hfn, hn1', hb, he]
  unfold Oper.wp
  rw [hrun, Oper.upon_enter]
  refine (T ρ w _ (fun i h1 _ => hr.bd i h1) hr.sim hall).mono ?_
  rintro e w' ⟨v, L, v', ρ', hR, rfl, hv, hs, hk, hρ⟩
  exact post_list hk (old_same hr hρ) (K v L hR ρ' _ w' (rel_next hr hd hv hs hρ))

end

/-- What a function hands back. -/
def evResults (τ : Nat → Option TI) (s : St) (rs : List ResultVar) : Option Value :=
  let one : ResultVar → Option Value := fun
    | .tmp t => lkp s.env t
    | .cell a t => (lkp s.env a).bind (evLoad τ s.heap t)
  match rs with
  | [r] => one r
  | rs => (rs.foldr (fun r acc => match one r, acc with | some v, some vs => some (v :: vs) | _, _ => none) (some [])).map fun vs => .tuple vs.toArray

end Go.Proofs.Yticaicdopfpknaa.Vm
