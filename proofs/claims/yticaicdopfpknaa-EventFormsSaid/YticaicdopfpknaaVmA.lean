/- A renaming of memory: values, blocks, worlds of a small heap, and those of the run. No program in it. -/
import Derived.Orders
import Derived.LoopN
import Derived.Below
set_option linter.unusedVariables false
set_option linter.unusedSimpArgs false
namespace Go.Proofs.Yticaicdopfpknaa.Vm
open Go

/-- Where a name lies: its block; an open one's capacity in elements, and how many cells an element has (0: there is none). -/
structure Slot where
  blk : Nat
  cap : Option (Nat × Nat)
  base : Nat := 0

/-- A name of no block: a slice that is nil. -/
def Slot.gone (s : Slot) : Bool := match s.cap with
  | some (_, 0) => true
  | _ => false

/-- Nothing, and no room. -/
def Slot.thin (s : Slot) : Bool := match s.cap with
  | some (0, 0) => true
  | some (1, 0) => true
  | _ => false
theorem thin_of {s : Slot} {k : Nat} (h : s.cap = some (k, 0)) (hk : k ≤ 1) : s.thin = true := by
  unfold Slot.thin; rw [h]
  match k, hk with
  | 0, _ => rfl
  | 1, _ => rfl
theorem thin_cap {s : Slot} {c : Nat} (h : s.cap = some (c + 1, 0)) (ht : s.thin = true) : c = 0 := by
  unfold Slot.thin at ht; rw [h] at ht
  match c with
  | 0 => rfl
  | c + 1 => cases ht

theorem gone_none {s : Slot} (h : s.cap = none) : s.gone = false := by unfold Slot.gone; rw [h]
theorem gone_zero {s : Slot} {k : Nat} (h : s.cap = some (k, 0)) : s.gone = true := by unfold Slot.gone; rw [h]; rfl
theorem gone_pos {s : Slot} {k sz : Nat} (h : s.cap = some (k, sz)) (hz : 0 < sz) : s.gone = false := by
  unfold Slot.gone; rw [h]
  split
  · rename_i he; cases he; omega
  · rfl

abbrev Ren := Nat → Option Slot

/-- A value of names, and one of blocks. -/
inductive VRel (ρ : Ren) : Value → Value → Prop
  | bool (b : Bool) : VRel ρ (.bool b) (.bool b)
  | int (k : IntKind) (n : Int) : VRel ρ (.int k n) (.int k n)
  | string (s : ByteArray) : VRel ρ (.string s) (.string s)
  | nilPtr : VRel ρ (.pointer none) (.pointer none)
  | ptr {i off : Nat} {s : Slot} (h : ρ i = some s) (hg : s.gone = false := by rfl) : VRel ρ (.pointer (some ⟨i, off, none⟩)) (.pointer (some ⟨s.blk, s.base + off, none⟩))
  | nilSlice : VRel ρ (.slice none 0 0) (.slice none 0 0)
  | slice {i off n c : Nat} {s : Slot} (h : ρ i = some s) (hc : s.cap = none) :
      VRel ρ (.slice (some ⟨i, off, none⟩) n c) (.slice (some ⟨s.blk, s.base + off, none⟩) n c)
  | oslice {i off n e k sz : Nat} {s : Slot} (h : ρ i = some s) (hc : s.cap = some (k, sz)) (hz : 0 < sz) (he : e * sz = off) (hn : e + n ≤ k) :
      VRel ρ (.slice (some ⟨i, off, none⟩) n 0) (.slice (some ⟨s.blk, s.base + off, none⟩) n (k - e))
  | ghost {i : Nat} {s : Slot} (h : ρ i = some s) (hg : s.cap = some (0, 0)) : VRel ρ (.slice (some ⟨i, 0, none⟩) 0 0) (.slice none 0 0)
  | hollow {i c : Nat} {s : Slot} (h : ρ i = some s) (hg : s.cap = some (c + 1, 0)) : VRel ρ (.slice (some ⟨i, 0, none⟩) 0 0) (.slice (some ⟨s.blk, s.base, none⟩) 0 c)
  | nilMap : VRel ρ (.map none) (.map none)
  | map {i : Nat} {s : Slot} (h : ρ i = some s) (hg : s.gone = false := by rfl) : VRel ρ (.map (some i)) (.map (some s.blk))
  | nilFunc : VRel ρ .nilFunc .nilFunc
  | func {fn : Fn} {f f' c c' : Array Value} (hf : f.size = f'.size) (hff : ∀ (i : Nat) v v', f[i]? = some v → f'[i]? = some v' → VRel ρ v v')
      (hc : c.size = c'.size) (hcc : ∀ (i : Nat) v v', c[i]? = some v → c'[i]? = some v' → VRel ρ v v') : VRel ρ (.func fn f c) (.func fn f' c')
  | nilIface : VRel ρ .nilIface .nilIface
  | iface (t : TypeId) {v v' : Value} (h : VRel ρ v v') : VRel ρ (.iface t v) (.iface t v')
  | agg {c c' : Array Value} (hc : c.size = c'.size) (hcc : ∀ (i : Nat) v v', c[i]? = some v → c'[i]? = some v' → VRel ρ v v') : VRel ρ (.agg c) (.agg c')
  | tuple {c c' : Array Value} (hc : c.size = c'.size) (hcc : ∀ (i : Nat) v v', c[i]? = some v → c'[i]? = some v' → VRel ρ v v') : VRel ρ (.tuple c) (.tuple c')

/-- One by one. -/
def LRel (ρ : Ren) (c c' : List Value) : Prop := c.length = c'.length ∧ ∀ (i : Nat) v v', c[i]? = some v → c'[i]? = some v' → VRel ρ v v'

/-- More names. -/
def Ext (ρ ρ' : Ren) : Prop := ∀ i s, ρ i = some s → ρ' i = some s

theorem Ext.refl (ρ : Ren) : Ext ρ ρ := fun _ _ h => h
theorem Ext.trans {ρ ρ1 ρ2 : Ren} (h : Ext ρ ρ1) (k : Ext ρ1 ρ2) : Ext ρ ρ2 := fun i s hs => k i s (h i s hs)

theorem VRel.mono {ρ ρ' : Ren} (h : Ext ρ ρ') {v v' : Value} (hv : VRel ρ v v') : VRel ρ' v v' := by
  induction hv with
  | bool b => exact .bool b
  | int k n => exact .int k n
  | string s => exact .string s
  | nilPtr => exact .nilPtr
  | ptr hi hg => exact .ptr (h _ _ hi) hg
  | nilSlice => exact .nilSlice
  | slice hi hc => exact .slice (h _ _ hi) hc
  | oslice hi hc hz he hn => exact .oslice (h _ _ hi) hc hz he hn
  | nilMap => exact .nilMap
  | map hi hg => exact .map (h _ _ hi) hg
  | ghost hi hg => exact .ghost (h _ _ hi) hg
  | hollow hi hg => exact .hollow (h _ _ hi) hg
  | nilFunc => exact .nilFunc
  | func hf _ hc _ ih1 ih2 => exact .func hf ih1 hc ih2
  | nilIface => exact .nilIface
  | iface t _ ih => exact .iface t ih
  | agg hc _ ih => exact .agg hc ih
  | tuple hc _ ih => exact .tuple hc ih

theorem LRel.mono {ρ ρ' : Ren} (h : Ext ρ ρ') {c c' : List Value} (hv : LRel ρ c c') : LRel ρ' c c' :=
  ⟨hv.1, fun i v v' h1 h2 => (hv.2 i v v' h1 h2).mono h⟩

theorem VRel.det {ρ : Ren} {v a b : Value} (ha : VRel ρ v a) (hb : VRel ρ v b) : a = b := by
  have key : ∀ (f g1 g2 : Array Value), f.size = g1.size → f.size = g2.size →
      (∀ (i : Nat) v v', f[i]? = some v → g1[i]? = some v' → ∀ {b}, VRel ρ v b → v' = b) → (∀ (i : Nat) v v', f[i]? = some v → g2[i]? = some v' → VRel ρ v v') → g1 = g2 := by
    intro f g1 g2 h1 h2 hx hy
    refine Array.ext (h1.symm.trans h2) fun i hi1 hi2 => ?_
    have hf : i < f.size := by omega
    exact hx i f[i] g1[i] (by simp [hf]) (by simp [hi1]) (hy i f[i] g2[i] (by simp [hf]) (by simp [hi2]))
  induction ha generalizing b with
  | ptr h hg => cases hb with | ptr h' => rw [h] at h'; cases h'; rfl
  | slice h hc => cases hb with
    | slice h' hc' => rw [h] at h'; cases h'; rfl
    | oslice h' hc' => rw [h] at h'; cases h'; rw [hc] at hc'; cases hc'
    | ghost h' hg' => rw [h] at h'; cases h'; rw [hc] at hg'; cases hg'
    | hollow h' hg' => rw [h] at h'; cases h'; rw [hc] at hg'; cases hg'
  | oslice h hc hz he hn => cases hb with
    | slice h' hc' => rw [h] at h'; cases h'; rw [hc] at hc'; cases hc'
    | oslice h' hc' hz' he' hn' =>
      rw [h] at h'; cases h'; rw [hc] at hc'; cases hc'
      have := Nat.eq_of_mul_eq_mul_right hz (he.trans he'.symm)
      rw [this]
    | ghost h' hg' => rw [h] at h'; cases h'; rw [hc] at hg'; cases hg'; omega
    | hollow h' hg' => rw [h] at h'; cases h'; rw [hc] at hg'; cases hg'; omega
  | ghost h hg => cases hb with
    | slice h' hc' => rw [h] at h'; cases h'; rw [hc'] at hg; cases hg
    | oslice h' hc' hz' he' hn' => rw [h] at h'; cases h'; rw [hc'] at hg; cases hg; omega
    | ghost => rfl
    | hollow h' hg' => rw [h] at h'; cases h'; rw [hg] at hg'; cases hg'
  | hollow h hg => cases hb with
    | slice h' hc' => rw [h] at h'; cases h'; rw [hc'] at hg; cases hg
    | oslice h' hc' hz' he' hn' => rw [h] at h'; cases h'; rw [hc'] at hg; cases hg; omega
    | ghost h' hg' => rw [h] at h'; cases h'; rw [hg] at hg'; cases hg'
    | hollow h' hg' => rw [h] at h'; cases h'; rw [hg] at hg'; cases hg'; rfl
  | map h hg => cases hb with | map h' => rw [h] at h'; cases h'; rfl
  | func hf hff hc hcc ih1 ih2 => cases hb with
    | func hf' hff' hc' hcc' =>
      rw [key _ _ _ hf hf' (fun i v v' h1 h2 => ih1 i v v' h1 h2) hff', key _ _ _ hc hc' (fun i v v' h1 h2 => ih2 i v v' h1 h2) hcc']
  | iface t _ ih => cases hb with | iface _ h' => rw [ih h']
  | agg hc hcc ih => cases hb with | agg hc' hcc' => rw [key _ _ _ hc hc' (fun i v v' h1 h2 => ih i v v' h1 h2) hcc']
  | tuple hc hcc ih => cases hb with | tuple hc' hcc' => rw [key _ _ _ hc hc' (fun i v v' h1 h2 => ih i v v' h1 h2) hcc']
  | _ => cases hb; rfl

/-- Names of names. -/
def compR (σ ρ : Ren) : Ren := fun j => (σ j).bind fun s => if s.gone then some s else ρ s.blk

/-- Such names: plain ones, and those of no block. -/
def Plain (σ : Ren) : Prop := ∀ j s, σ j = some s → s.cap = some (0, 0) ∨ (s.cap = none ∧ s.base = 0)

theorem Plain.real {σ : Ren} (h : Plain σ) {j : Nat} {s : Slot} (hj : σ j = some s) (hg : s.gone = false) : s.cap = none ∧ s.base = 0 := by
  rcases h j s hj with h | h
  · rw [gone_zero h] at hg; cases hg
  · exact h

theorem Plain.thin {σ : Ren} (h : Plain σ) {j : Nat} {s : Slot} (hj : σ j = some s) (hg : s.gone = true) : s.thin = true := by
  rcases h j s hj with h | ⟨h, _⟩
  · exact thin_of h (by omega)
  · rw [gone_none h] at hg; cases hg

theorem comp_real {σ ρ : Ren} {j : Nat} {s : Slot} (h : σ j = some s) (hg : s.gone = false) : compR σ ρ j = ρ s.blk := by
  unfold Vm.compR; rw [h]; simp [hg]
theorem comp_gone {σ ρ : Ren} {j : Nat} {s : Slot} (h : σ j = some s) (hg : s.gone = true) : compR σ ρ j = some s := by
  unfold Vm.compR; rw [h]; simp [hg]

theorem VRel.comp {σ ρ : Ren} (hσ : Plain σ) {a b : Value} (h : VRel σ a b) : ∀ {c : Value}, VRel ρ b c → VRel (compR σ ρ) a c := by
  have key : ∀ (f g h : Array Value), f.size = g.size → g.size = h.size → (∀ (i : Nat) v v', f[i]? = some v → g[i]? = some v' → ∀ {c}, VRel ρ v' c → VRel (Vm.compR σ ρ) v c) →
      (∀ (i : Nat) v v', g[i]? = some v → h[i]? = some v' → VRel ρ v v') → ∀ (i : Nat) v v', f[i]? = some v → h[i]? = some v' → VRel (Vm.compR σ ρ) v v' := by
    intro f g h h1 h2 hx hy i v v' hv hv'
    have hi : i < g.size := by have := (Array.getElem?_eq_some_iff.1 hv).1; omega
    exact hx i v g[i] hv (by simp [hi]) (hy i g[i] v' (by simp [hi]) hv')
  induction h with
  | ptr h hg =>
    intro c hc
    rw [(hσ.real h hg).2, Nat.zero_add] at hc
    cases hc with | ptr h' hg' => exact .ptr (by rw [comp_real h hg]; exact h') hg'
  | slice h hc0 =>
    intro c hc
    have hg := gone_none hc0
    rw [(hσ.real h hg).2, Nat.zero_add] at hc
    cases hc with
    | slice h' hc' => exact .slice (by rw [comp_real h hg]; exact h') hc'
    | oslice h' hc' hz he hn => exact .oslice (by rw [comp_real h hg]; exact h') hc' hz he hn
    | ghost h' hg' => exact .ghost (by rw [comp_real h hg]; exact h') hg'
    | hollow h' hg' => exact .hollow (by rw [comp_real h hg]; exact h') hg'
  | oslice h hc hz => intro c _; rw [(hσ.real h (gone_pos hc hz)).1] at hc; cases hc
  | ghost h hg => intro c hc; cases hc; exact .ghost (comp_gone h (gone_zero hg)) hg
  | hollow h hg =>
    intro c _
    rcases hσ _ _ h with q | ⟨q, _⟩
    · rw [hg] at q; cases q
    · rw [hg] at q; cases q
  | map h hg => intro c hc; cases hc with | map h' hg' => exact .map (by rw [comp_real h hg]; exact h') hg'
  | func hf _ hc _ ih1 ih2 => intro c hx; cases hx with
    | func hf' hff' hc' hcc' => exact .func (hf.trans hf') (key _ _ _ hf hf' ih1 hff') (hc.trans hc') (key _ _ _ hc hc' ih2 hcc')
  | iface t _ ih => intro c hc; cases hc with | iface _ h' => exact .iface t (ih h')
  | agg hc _ ih => intro c hx; cases hx with | agg hc' hcc' => exact .agg (hc.trans hc') (key _ _ _ hc hc' ih hcc')
  | tuple hc _ ih => intro c hx; cases hx with | tuple hc' hcc' => exact .tuple (hc.trans hc') (key _ _ _ hc hc' ih hcc')
  | bool b => intro c hc; cases hc; exact .bool b
  | int k n => intro c hc; cases hc; exact .int k n
  | string s => intro c hc; cases hc; exact .string s
  | nilPtr => intro c hc; cases hc; exact .nilPtr
  | nilSlice => intro c hc; cases hc; exact .nilSlice
  | nilMap => intro c hc; cases hc; exact .nilMap
  | nilFunc => intro c hc; cases hc; exact .nilFunc
  | nilIface => intro c hc; cases hc; exact .nilIface

theorem LRel.comp {σ ρ : Ren} (hσ : Plain σ) {a b c : List Value} (h : LRel σ a b) (k : LRel ρ b c) : LRel (compR σ ρ) a c := by
  refine ⟨h.1.trans k.1, fun i v v' hv hv' => ?_⟩
  have hi : i < b.length := by have := (List.getElem?_eq_some_iff.1 hv).1; have := h.1; omega
  exact (h.2 i v b[i] hv (by simp [hi])).comp hσ (k.2 i b[i] v' (by simp [hi]) hv')

end Go.Proofs.Yticaicdopfpknaa.Vm
