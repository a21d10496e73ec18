/- What an operation does to a small heap of names, as a function; it is what the run does. No program in it. -/
import Derived.Test.YticaicdopfpknaaVmC
import Derived.Laws.Cells
set_option linter.unusedVariables false
set_option linter.unusedSimpArgs false
namespace Go.Proofs.Yticaicdopfpknaa.Vm
open Go

/-- What is to be known of a type. -/
structure TI where
  desc : TypeDesc
  size : Nat
  bytes : Nat
  zero : Value
  cmp : Bool := false
  eqOk : Bool := false

structure TyOk (P : Program) (τ : Nat → Option TI) : Prop where
  under : ∀ t i, τ t = some i → P.underlying t = some i.desc
  info : ∀ t i, τ t = some i → ∃ f, P.info? t = some f ∧ f.size = i.size ∧ f.bytes = i.bytes ∧ f.zero = some i.zero
  zero : ∀ t i, τ t = some i → ∀ ρ, VRel ρ i.zero i.zero
  cmp : ∀ t i, τ t = some i → i.cmp = true → ∃ f, P.info? t = some f ∧ f.comparable = true
  eqOk : ∀ t i, τ t = some i → i.eqOk = true → P.stoodInHeld t = false ∧ P.eqGuardType P.depth t = false

def constOk : Value → Bool
  | .bool _ | .int _ _ | .string _ | .pointer none | .slice none 0 0 | .map none | .nilFunc | .nilIface => true
  | _ => false

/-- A value that bears no name. -/
theorem vrel_const {ρ : Ren} {v : Value} (h : constOk v = true) : VRel ρ v v := by
  unfold constOk at h
  split at h <;> first | constructor | cases h

def rd (env : List (Nat × Value)) : Operand → Option Value
  | .tmp t => lkp env t
  | .const v => if constOk v then some v else none
  | .func f => some (.func (.func f) #[] #[])
  | .global _ => none

theorem rd_ok {m g : Nat} {ρ : Ren} {s : St} {a : Act} {w : World} (hr : Rel m g ρ s a w) {x : Operand} {v : Value} (h : rd s.env x = some v) : VRel ρ v (a.eval x) := by
  cases x with
  | tmp t =>
    obtain ⟨v', h1, h2⟩ := hr.env t v h
    simpa [Act.eval, h1] using h2
  | const c =>
    simp only [rd] at h
    split at h
    · cases h; exact vrel_const ‹_›
    · cases h
  | func f =>
    cases h
    exact .func rfl (fun i v v' h => by simp at h) rfl (fun i v v' h => by simp at h)
  | global g => cases h

/-- The cells of a block of names. -/
def cellsOf : VObj → Option (List Value)
  | .cells c _ _ => some c
  | .opn c _ _ => some c
  | .map _ _ => none
  | .ro c => some c
  | .win c _ => some c
  | .emp => some []

def splice (c : List Value) (off : Nat) (vs : List Value) : List Value := c.take off ++ vs ++ c.drop (off + vs.length)

def isAggB : TypeDesc → Bool
  | .struct _ | .array _ _ => true
  | _ => false

def evLoad (τ : Nat → Option TI) (V : Heap) (t : Nat) : Value → Option Value
  | .pointer (some ⟨i, off, none⟩) =>
    match τ t, (V i).bind cellsOf with
    | some ti, some c =>
      if isAggB ti.desc then (if off + ti.size ≤ c.length then some (.agg ((c.drop off).take ti.size).toArray) else none)
      else c[off]?
    | _, _ => none
  | _ => none

theorem lrel_get {ρ : Ren} {c c' : List Value} (h : LRel ρ c c') {i : Nat} {v : Value} (hv : c[i]? = some v) : ∃ v', c'[i]? = some v' ∧ VRel ρ v v' := by
  have hi : i < c'.length := h.1 ▸ (List.getElem?_eq_some_iff.1 hv).1
  exact ⟨c'[i], by simp [hi], h.2 i v _ hv (by simp [hi])⟩

theorem lrel_append {ρ : Ren} {a a' b b' : List Value} (h : LRel ρ a a') (k : LRel ρ b b') : LRel ρ (a ++ b) (a' ++ b') := by
  refine ⟨by simp [h.1, k.1], fun i v v' hv hv' => ?_⟩
  by_cases hi : i < a.length
  · rw [List.getElem?_append_left hi] at hv
    rw [List.getElem?_append_left (h.1 ▸ hi)] at hv'
    exact h.2 i v v' hv hv'
  · rw [List.getElem?_append_right (by omega)] at hv
    rw [List.getElem?_append_right (by have := h.1; omega), ← h.1] at hv'
    exact k.2 _ v v' hv hv'

theorem lrel_take {ρ : Ren} {c c' : List Value} (h : LRel ρ c c') (n : Nat) : LRel ρ (c.take n) (c'.take n) := by
  refine ⟨by simp [h.1], fun i v v' hv hv' => ?_⟩
  rw [List.getElem?_take] at hv hv'
  split at hv
  · rename_i hl; rw [if_pos hl] at hv'; exact h.2 i v v' hv hv'
  · cases hv

theorem lrel_drop {ρ : Ren} {c c' : List Value} (h : LRel ρ c c') (n : Nat) : LRel ρ (c.drop n) (c'.drop n) := by
  refine ⟨by simp [h.1], fun i v v' hv hv' => ?_⟩
  rw [List.getElem?_drop] at hv hv'
  exact h.2 _ v v' hv hv'

theorem vrel_agg {ρ : Ren} {c c' : List Value} (h : LRel ρ c c') : VRel ρ (.agg c.toArray) (.agg c'.toArray) :=
  .agg (by simpa using h.1) fun i v v' h1 h2 => h.2 i v v' (by simpa using h1) (by simpa using h2)

theorem vrel_tuple {ρ : Ren} {c c' : List Value} (h : LRel ρ c c') : VRel ρ (.tuple c.toArray) (.tuple c'.toArray) :=
  .tuple (by simpa using h.1) fun i v v' h1 h2 => h.2 i v v' (by simpa using h1) (by simpa using h2)

theorem vrel_agg_inv {ρ : Ren} {c : Array Value} {x : Value} (h : VRel ρ (.agg c) x) : ∃ c', x = .agg c' ∧ LRel ρ c.toList c'.toList := by
  cases h with
  | agg hc hcc => exact ⟨_, rfl, by simpa using hc, fun i v v' h1 h2 => hcc i v v' (by simpa using h1) (by simpa using h2)⟩

theorem vrel_tuple_inv {ρ : Ren} {c : Array Value} {x : Value} (h : VRel ρ (.tuple c) x) : ∃ c', x = .tuple c' ∧ LRel ρ c.toList c'.toList := by
  cases h with
  | tuple hc hcc => exact ⟨_, rfl, by simpa using hc, fun i v v' h1 h2 => hcc i v v' (by simpa using h1) (by simpa using h2)⟩

theorem lrel_nil {ρ : Ren} : LRel ρ [] [] := ⟨rfl, fun i v v' h => by simp at h⟩
theorem lrel_cons {ρ : Ren} {v v' : Value} {c c' : List Value} (h : VRel ρ v v') (k : LRel ρ c c') : LRel ρ (v :: c) (v' :: c') :=
  lrel_append (a := [v]) (a' := [v']) ⟨rfl, fun i x x' h1 h2 => by cases i <;> simp_all⟩ k

/-- The cells of a value. -/
theorem vrel_cells {ρ : Ren} {v v' : Value} (h : VRel ρ v v') : LRel ρ v.cells.toList v'.cells.toList := by
  have hh := h
  cases h with
  | agg hc hcc => exact ⟨by simpa [Value.cells] using hc, fun i v v' h1 h2 => hcc i v v' (by simpa [Value.cells] using h1) (by simpa [Value.cells] using h2)⟩
  | _ => exact lrel_cons hh lrel_nil

section
variable {P : Program} {τ : Nat → Option TI} {ρ : Ren} {V : Heap} {w : World}

theorem run_underlying' (hτ : TyOk P τ) {t : Nat} {ti : TI} (h : τ t = some ti) (w : World) : (underlying t).run P w = .ok ti.desc w := by
  simp [underlying, hτ.under t ti h]

theorem run_typeInfo' (hτ : TyOk P τ) {t : Nat} {ti : TI} (h : τ t = some ti) (w : World) : ∃ f, (typeInfo t).run P w = .ok f w ∧ f.size = ti.size ∧ f.bytes = ti.bytes ∧ f.zero = some ti.zero := by
  obtain ⟨f, hf, r⟩ := hτ.info t ti h
  exact ⟨f, by simp [typeInfo, hf], r⟩

theorem run_sizeOf' (hτ : TyOk P τ) {t : Nat} {ti : TI} (h : τ t = some ti) (w : World) : (sizeOf t).run P w = .ok ti.size w := by
  obtain ⟨f, hf, hs, _⟩ := run_typeInfo' hτ h w
  simp [sizeOf, hf, hs]

theorem run_zeroValue' (hτ : TyOk P τ) {t : Nat} {ti : TI} (h : τ t = some ti) (w : World) : (zeroValue t).run P w = .ok ti.zero w := by
  obtain ⟨f, hf, _, _, hz⟩ := run_typeInfo' hτ h w
  simp [zeroValue, hf, hz]

theorem run_isAgg' (hτ : TyOk P τ) {t : Nat} {ti : TI} (h : τ t = some ti) (w : World) : (isAgg t).run P w = .ok (isAggB ti.desc) w := by
  unfold isAgg
  rw [Sem.run_bind, run_underlying' hτ h w]
  cases hd : ti.desc <;> simp [isAggB]

theorem add_none (b off n : Nat) : (⟨b, off, none⟩ : Addr).add n = ⟨b, off + n, none⟩ := by
  unfold Addr.add; split <;> simp_all

theorem cell_of (w : World) {b j : Nat} {c' : Array Value} {e : TypeId} {fr : Nat × Nat} (h : w.heap[b]? = some (.cells c' e fr)) : w.cell? ⟨b, j, none⟩ = c'[j]? := by
  simp [World.cell?, h]

/-- A block of the small heap, in the world: what is read there. -/
theorem block_of (hs : Sim ρ V w) {i : Nat} {o : VObj} {c : List Value} (hg : V i = some o) (hc : cellsOf o = some c) :
    ∃ s c', ρ i = some s ∧ LRel ρ c c' ∧ ∀ j v, c'[j]? = some v → w.cell? ⟨s.blk, s.base + j, none⟩ = some v := by
  obtain ⟨s, h1, hat⟩ := hs.has i o hg
  rcases hat with ⟨_, hv, _⟩ | ⟨_, o', h2, h3⟩
  · refine ⟨s, [], h1, ?_, fun j v h => by simp at h⟩
    unfold VObj.void at hv
    split at hv
    · simp only [cellsOf, Option.some.injEq] at hc; subst hc; exact lrel_nil
    · simp only [cellsOf, Option.some.injEq] at hc; subst hc; exact lrel_nil
    · simp only [cellsOf, Option.some.injEq] at hc; subst hc; exact lrel_nil
    · cases hv
  cases h3 with
  | cells e fr hcap hb hl =>
    simp only [cellsOf, Option.some.injEq] at hc; subst hc
    refine ⟨s, _, h1, hl, fun j v hv => ?_⟩
    rw [cell_of w h2, hb, Nat.zero_add]
    simpa using hv
  | opn e hcap hb hl hcc hk hz fr hf =>
    simp only [cellsOf, Option.some.injEq] at hc; subst hc
    refine ⟨s, _, h1, hl, fun j v hv => ?_⟩
    rw [cell_of w h2, hb, Nat.zero_add, ← Array.getElem?_toList, hcc]
    rw [List.getElem?_append_left (List.getElem?_eq_some_iff.1 hv).1]
    exact hv
  | map => cases hc
  | ro e fr hcap hl =>
    simp only [cellsOf, Option.some.injEq] at hc; subst hc
    refine ⟨s, _, h1, hl, fun j v hv => ?_⟩
    rw [cell_of w h2, ← Array.getElem?_toList]
    rw [List.getElem?_take] at hv
    split at hv
    · rw [List.getElem?_drop] at hv; exact hv
    · cases hv
  | win e fr hcap hz hl =>
    simp only [cellsOf, Option.some.injEq] at hc; subst hc
    refine ⟨s, _, h1, hl, fun j v hv => ?_⟩
    rw [cell_of w h2, ← Array.getElem?_toList]
    rw [List.getElem?_take] at hv
    split at hv
    · rw [List.getElem?_drop] at hv; exact hv
    · cases hv

theorem evLoad_ok (hτ : TyOk P τ) (hs : Sim ρ V w) {t : Nat} {x x' v : Value} (hx : VRel ρ x x') (h : evLoad τ V t x = some v) :
    ∃ v', (Instr.loadAt t x').run P w = .ok v' w ∧ VRel ρ v v' := by
  unfold evLoad at h
  split at h
  case h_2 => cases h
  rename_i i off
  split at h
  case h_2 => cases h
  rename_i ti c ht hc
  cases hx with
  | ptr hi hgo =>
  rename_i s
  cases hg : V i with
  | none => simp [hg] at hc
  | some o =>
  simp only [hg, Option.bind_some] at hc
  obtain ⟨s', c', h1, h3, h2⟩ := block_of hs hg hc
  rw [hi] at h1; cases h1
  simp only [Instr.loadAt, Instr.sureAddr, Sem.run_bind, Sem.run_pure, Result.andThen_ok, loadVar, run_isAgg' hτ ht]
  split at h
  · rename_i ha
    split at h
    · rename_i hlen
      cases h
      rw [if_pos ha]
      have hlc := h3.1
      have hrun := run_loadCells_list (P := P) w ⟨s.blk, s.base + off, none⟩ ((c'.drop off).take ti.size) (fun j v hv => by
        rw [add_none]
        rw [List.getElem?_take] at hv
        split at hv
        · rw [List.getElem?_drop] at hv; rw [Nat.add_assoc]; exact h2 _ _ hv
        · cases hv)
      have hlen' : ((c'.drop off).take ti.size).length = ti.size := by simp only [List.length_take, List.length_drop]; omega
      rw [hlen'] at hrun
      simp only [run_sizeOf' hτ ht, Sem.run_bind, Result.andThen_ok, hrun, Sem.run_pure]
      exact ⟨_, rfl, vrel_agg (lrel_take (lrel_drop h3 off) ti.size)⟩
    · cases h
  · rename_i ha
    rw [if_neg ha]
    obtain ⟨v', hv', hr⟩ := lrel_get h3 h
    refine ⟨v', ?_, hr⟩
    rw [run_load, h2 _ _ hv']

end
end Go.Proofs.Yticaicdopfpknaa.Vm
