/- All operations but calls of functions, as one function; and in a row. No program in it. -/
import Derived.Test.YticaicdopfpknaaVmI4
set_option linter.unusedVariables false
set_option linter.unusedSimpArgs false
namespace Go.Proofs.Yticaicdopfpknaa.Vm
open Go

/-- Names that a value leads to at once. -/
def at_ : Value → List Nat
  | .pointer (some a) => [a.block]
  | .slice (some a) _ _ => [a.block]
  | .map (some i) => [i]
  | _ => []

def evNil (x : Value) : Option Value :=
  match x with
  | .pointer (some a) => some (.pointer (some a))
  | .func (.func f) a b => some (.func (.func f) a b)
  | .slice a b c => some (.slice a b c)
  | _ => none

def isLit : Operand → Bool
  | .const _ => true
  | _ => false

def rds (env : List (Nat × Value)) (xs : List Operand) : Option (List Value) :=
  match xs with
  | [] => some []
  | x :: r => match rd env x, rds env r with
    | some v, some vs => some (v :: vs)
    | _, _ => none

def evOp (τ : Nat → Option TI) (env : List (Nat × Value)) (V : Heap) (n : Nat) : Op → Option Res
  | .move x => (rd env x).map rv
  | .assign x => (rd env x).map rv
  | .pick c a b => match rd env c with
    | some (.bool true) => (rd env a).map rv
    | some (.bool false) => (rd env b).map rv
    | _ => none
  | .alloc t => (τ t).map fun ti => ⟨.pointer (some ⟨n, 0, none⟩), [(n, some (.cells ti.zero.cells.toList t (0, 0)))], 1, []⟩
  | .box t x => (rd env x).map fun v => ⟨.pointer (some ⟨n, 0, none⟩), [(n, some (.cells v.cells.toList t (0, 0)))], 1, []⟩
  | .build t ps => (evBuild τ t (ps.toList.map fun p => (p.1, rd env p.2))).map rv
  | .buildSlice t len ps => evBuildSlice τ n t len (ps.toList.map fun p => (p.1, rd env p.2))
  | .load t a => (rd env a).bind fun x => (evLoad τ V t x).map fun v => ⟨v, [], 0, at_ x⟩
  | .store t a x => match rd env a, rd env x with
    | some p, some v => evStore τ V t p v
    | _, _ => none
  | .nilCheck x => ((rd env x).bind evNil).map rv
  | .binOp op t x y _ => match rd env x, rd env y with
    | some a, some b => (evBin τ op t (isLit x || isLit y) a b).map rv
    | _, _ => none
  | .unOp op _ x => ((rd env x).bind (evUn op)).map rv
  | .convert s d x => (rd env x).bind fun v => match evConvert τ V s d v with
    | some r => some r
    | none => evBytes τ n s d v
  | .makeInterface t x => match τ t with
    | some ti => (match ti.desc with
      | .interface _ => none
      | _ => (rd env x).map fun v => rv (.iface t v))
    | none => none
  | .makeFunc (.func f) a b => match rds env a.toList, rds env b.toList with
    | some va, some vb => some (rv (.func (.func f) va.toArray vb.toArray))
    | _, _ => none
  | .makeMap _ none => some ⟨.map (some n), [(n, some (.map [] 0))], 1, []⟩
  | .slice t x lo hi none => (rd env x).bind fun v => evSlice τ V t v (lo.map (rd env)) (hi.map (rd env))
  | .fieldAddr t x f => ((rd env x).bind (evFieldAddr τ t f)).map rv
  | .field t x f => ((rd env x).bind (evField τ t f)).map rv
  | .indexAddr t x ix => match rd env x, rd env ix with
    | some a, some b => (evIndexAddr τ t a b).map rv
    | _, _ => none
  | .index t x ix => match rd env x, rd env ix with
    | some a, some b => (evIndex τ t a b).map rv
    | _, _ => none
  | .typeAssert x _ a ok => ((rd env x).bind fun v => evAssert τ v a ok).map rv
  | .extract x i => ((rd env x).bind fun v => evExtract v i).map rv
  | .call c => match c.callee with
    | .builtin .len => match c.args.toList.map (rd env), c.argTypes.toList with
      | [some x], [t] => evLen τ V t x
      | _, _ => none
    | .builtin .min => ((rds env c.args.toList).bind evMin).map rv
    | .builtin .max => ((rds env c.args.toList).bind evMax).map rv
    | .builtin .append => match c.args.toList.map (rd env), c.argTypes.toList with
      | [some s, some x], [t, u] => if u = t then evAppend τ V n t s x else none
      | _, _ => none
    | .builtin .copy => match c.args.toList.map (rd env), c.argTypes.toList with
      | [some s, some x], [t, _] => evCopy τ V t s x
      | _, _ => none
    | .builtin .clear => match c.args.toList.map (rd env), c.argTypes.toList with
      | [some x], [t] => evClear τ V t x
      | _, _ => none
    | _ => none
  | .lookup t x ix ok => match rd env x, rd env ix with
    | some a, some b => evLookup τ V t a b ok
    | _, _ => none
  | .mapEntry t m k => match rd env m, rd env k with
    | some a, some b => evMapEntry τ V t a b
    | _, _ => none
  | .makeSlice t l c => match rd env l, rd env c with
    | some a, some b => evMakeSlice τ n t a b
    | _, _ => none
  | .entryStore _ m s x => match rd env m, rd env s, rd env x with
    | some a, some b, some c => evEntryStore V a b c
    | _, _, _ => none
  | _ => none

section
variable {P : Program} {τ : Nat → Option TI} {ρ : Ren} {V : Heap} {w : World} {n : Nat}

/-- Operands, as the run has them. -/
def Rd (ρ : Ren) (env : List (Nat × Value)) (e : Operand → Value) : Prop := ∀ x v, rd env x = some v → VRel ρ v (e x)

theorem rds_ok {env : List (Nat × Value)} {e : Operand → Value} (hr : Rd ρ env e) : ∀ {xs : List Operand} {vs : List Value}, rds env xs = some vs → LRel ρ vs (xs.map e)
  | [], vs, h => by cases h; exact lrel_nil
  | x :: xs, vs, h => by
    simp only [rds] at h
    split at h
    case h_2 => cases h
    rename_i v r h1 h2
    cases h
    exact lrel_cons (hr x v h1) (rds_ok hr h2)

theorem parts_ok {env : List (Nat × Value)} {e : Operand → Value} (hr : Rd ρ env e) (ps : Array (Nat × Operand)) :
    (ps.toList.map fun p => (p.1, rd env p.2)).length = (ps.toList.map fun p => (p.1, e p.2)).length ∧
    ∀ (i : Nat) p q, (ps.toList.map fun p => (p.1, rd env p.2))[i]? = some p → (ps.toList.map fun p => (p.1, e p.2))[i]? = some q → p.1 = q.1 ∧ ∀ v, p.2 = some v → VRel ρ v q.2 := by
  refine ⟨by simp, fun i p q h1 h2 => ?_⟩
  simp only [List.getElem?_map, Option.map_eq_some_iff] at h1 h2
  obtain ⟨x, hx, rfl⟩ := h1
  obtain ⟨y, hy, rfl⟩ := h2
  rw [hx] at hy; cases hy
  exact ⟨rfl, fun v hv => hr _ v hv⟩

theorem sub_ok {env : List (Nat × Value)} {e : Operand → Value} (hr : Rd ρ env e) (x : Option Operand) :
    (∀ o, x.map (rd env) = some o → ∃ y, x.map e = some y ∧ ∀ v, o = some v → VRel ρ v y) ∧ (x.map (rd env) = none → x.map e = none) := by
  cases x with
  | none => exact ⟨fun o h => (by cases h), fun _ => rfl⟩
  | some x => exact ⟨fun o h => ⟨_, rfl, fun v hv => by simp only [Option.map_some, Option.some.injEq] at h; subst h; exact hr _ _ hv⟩, fun h => (by cases h)⟩

def plainEq : Value → Value → Bool
  | .int _ _, .int _ _ | .string _, .string _ | .float _ _, .float _ _ | .complex _ _ _, .complex _ _ _ => false
  | _, _ => true

theorem binOp_eql (t : Nat) (x y : Value) (h : plainEq x y = true) : binOp .eql t x y = (do pure (.bool (← Op.equal t x y))) := by
  cases x <;> cases y <;> first | rfl | cases h
theorem binOp_neq (t : Nat) (x y : Value) (h : plainEq x y = true) : binOp .neq t x y = (do pure (.bool (!(← Op.equal t x y)))) := by
  cases x <;> cases y <;> first | rfl | cases h

theorem plainEq_rel {a b a' b' : Value} (ha : VRel ρ a a') (hb : VRel ρ b b') (h : plainEq a b = true) : plainEq a' b' = true := by
  cases ha <;> cases hb <;> first | rfl | cases h

theorem guard_ok {op : BinOp} {t : Nat} {x y : Operand} {a' b' : Value} (h1 : bothNil a' b' = true → (isLit x || isLit y) = true)
    (h2 : ∀ c d, a' = .agg c → b' = .agg d → P.eqGuardType P.depth t = false) : (eqGuard op t x y a' b').run P w = .ok () w := by
  have e : ((x matches .const _) || (y matches .const _)) = (isLit x || isLit y) := by cases x <;> cases y <;> rfl
  cases op <;> first | rfl | skip
  all_goals (cases a' <;> cases b' <;> first | rfl | skip)
  all_goals first
    | (have q := h1 rfl; clear h1 h2 e; cases x <;> cases y <;> first | rfl | (cases q; done))
    | (have q := h2 _ _ rfl rfl; simp [eqGuard, q])

theorem isIface_ok (hτ : TyOk P τ) {t : Nat} (h : isIface τ t = true) : (Op.equal t .nilIface .nilIface).run P w = .ok true w := by
  unfold isIface at h
  split at h
  · rename_i ti ht
    split at h
    · rename_i hd
      have e : ∀ d, (Op.equalIn (d + 1) t .nilIface .nilIface).run P w = .ok true w := by
        intro d
        simp only [Op.equalIn, Sem.run_bind, run_underlying' hτ ht, hd, Result.andThen_ok, Sem.run_pure]
      exact e 9999
    · cases h
  · cases h

theorem evEq_agg {d t : Nat} {c e : Array Value} {b : Bool} (h : evEq τ (d + 1) t (.agg c) (.agg e) = some b) : ∃ ti, τ t = some ti ∧ ti.eqOk = true := by
  simp only [evEq] at h
  split at h
  case h_1 => cases h
  rename_i ti ht
  refine ⟨ti, ht, ?_⟩
  split at h <;> first | (rename_i h1 h2 h3; cases h2; done) | (rename_i h1 h2; cases h2; done) | skip
  all_goals first
    | (split at h
       · assumption
       · cases h)
    | cases h
    | (simp_all; done)

theorem evBin_ok (hτ : TyOk P τ) {op : BinOp} {t : Nat} {x y : Operand} {a b a' b' v : Value} (ha : VRel ρ a a') (hb : VRel ρ b b') (h : evBin τ op t (isLit x || isLit y) a b = some v) :
    (do eqGuard op t x y a' b'; binOp op t a' b' : Sem Value).run P w = .ok v w ∧ VRel ρ v v := by
  have hg : bothNil a b = bothNil a' b' := by cases ha <;> cases hb <;> rfl
  have hcmp : ∀ (e : Bool), bothNil a b = false → plainEq a b = true → evEq τ 50 t a b = some e →
      (eqGuard op t x y a' b').run P w = .ok () w ∧ (Op.equal t a' b').run P w = .ok e w ∧ plainEq a' b' = true := by
    intro e hn hp he
    refine ⟨guard_ok (fun q => by rw [← hg, hn] at q; cases q) (fun c d hc hd => ?_), ?_, plainEq_rel ha hb hp⟩
    · subst hc; subst hd
      cases ha; cases hb
      obtain ⟨ti, ht, hok⟩ := evEq_agg (d := 49) he
      exact (hτ.eqOk t ti ht hok).2
    · exact evEq_ok hτ 50 9950 t a b a' b' e ha hb he
  unfold evBin at h
  split at h
  · split at h
    · cases h
    · rename_i hb0
      cases h; cases ha; cases hb
      refine ⟨?_, .int _ _⟩
      rw [Sem.run_bind, guard_ok (fun q => by cases q) (fun c d hc hd => by cases hc)]
      simp [binOp, Op.shift, hb0]
  · split at h
    · cases h
    · rename_i hb0
      cases h; cases ha; cases hb
      refine ⟨?_, .int _ _⟩
      rw [Sem.run_bind, guard_ok (fun q => by cases q) (fun c d hc hd => by cases hc)]
      simp [binOp, Op.shift, hb0]
  · split at h
    · rename_i hk; subst hk
      cases ha; cases hb
      obtain ⟨h1, h2⟩ := evInt_ok (P := P) (ρ := ρ) (w := w) h
      refine ⟨?_, h2⟩
      rw [Sem.run_bind, guard_ok (fun q => by cases q) (fun c d hc hd => by cases hc)]
      simp only [Result.andThen_ok]
      cases op <;> first | (simpa [binOp] using h1) | (simp [evInt] at h; done)
    · cases h
  · cases ha; cases hb
    obtain ⟨h1, h2⟩ := evStr_ok (P := P) (ρ := ρ) (w := w) h
    refine ⟨?_, h2⟩
    rw [Sem.run_bind, guard_ok (fun q => by cases q) (fun c d hc hd => by cases hc)]
    simp only [Result.andThen_ok]
    cases op <;> first | (simpa [binOp] using h1) | (simp [evStr] at h; done)
  · rename_i hni hns
    split at h
    · rename_i hbn
      split at h
      · rename_i hlit
        cases h
        have hx : a' = .nilIface ∧ b' = .nilIface := by rw [hg] at hbn; cases ha <;> cases hb <;> first | exact ⟨rfl, rfl⟩ | cases hbn
        obtain ⟨rfl, rfl⟩ := hx
        refine ⟨?_, .bool _⟩
        simp only [Bool.and_eq_true] at hlit
        rw [Sem.run_bind, guard_ok (fun _ => hlit.1) (fun c d hc hd => by cases hc)]
        have := isIface_ok (w := w) hτ hlit.2
        simp [binOp, this]
      · cases h
    · rename_i hbn
      simp only [Option.map_eq_some_iff] at h
      obtain ⟨e, he, rfl⟩ := h
      obtain ⟨h1, h2, h3⟩ := hcmp e (by simpa using hbn) (by cases a <;> cases b <;> first | rfl | (exact (hni _ _ _ _ rfl rfl).elim) | (exact (hns _ _ rfl rfl).elim) | cases ha) he
      exact ⟨by rw [binOp_eql _ _ _ h3]; simp [h1, h2], .bool _⟩
  · rename_i hni hns
    split at h
    · rename_i hbn
      split at h
      · rename_i hlit
        cases h
        have hx : a' = .nilIface ∧ b' = .nilIface := by rw [hg] at hbn; cases ha <;> cases hb <;> first | exact ⟨rfl, rfl⟩ | cases hbn
        obtain ⟨rfl, rfl⟩ := hx
        refine ⟨?_, .bool _⟩
        simp only [Bool.and_eq_true] at hlit
        rw [Sem.run_bind, guard_ok (fun _ => hlit.1) (fun c d hc hd => by cases hc)]
        have := isIface_ok (w := w) hτ hlit.2
        simp [binOp, this]
      · cases h
    · rename_i hbn
      simp only [Option.map_eq_some_iff] at h
      obtain ⟨e, he, rfl⟩ := h
      obtain ⟨h1, h2, h3⟩ := hcmp e (by simpa using hbn) (by cases a <;> cases b <;> first | rfl | (exact (hni _ _ _ _ rfl rfl).elim) | (exact (hns _ _ rfl rfl).elim) | cases ha) he
      exact ⟨by rw [binOp_neq _ _ _ h3]; simp [h1, h2], .bool _⟩
  · cases h

end
end Go.Proofs.Yticaicdopfpknaa.Vm
