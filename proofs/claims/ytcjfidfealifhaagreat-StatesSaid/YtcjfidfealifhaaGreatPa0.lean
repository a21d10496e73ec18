/- Texts of this claim, one behind the other (1 of 7). -/
import Derived.Below
import Derived.ChangeArms
import Derived.ChangeOld
import Derived.Deep.LoopGhost
import Derived.IntWalk
import Derived.KernelRfl
import Derived.Laws.AppendOwn
import Derived.Laws.BitsLemmas
import Derived.Laws.Cells
import Derived.Laws.Entries
import Derived.Laws.IdiomStrings
import Derived.Laws.MakeOwn
import Derived.Laws.StructEq
import Derived.LoopN
import Derived.OpenShut
import Derived.Orders
import Derived.ProofKit
import Derived.Shelf.Spec.SlicesInsertGrow
import Derived.ShutString
import Derived.SizedLaws
import Derived.Tactics
import Derived.Test.YtcjfidfealifhaaGreatChecked
import Derived.Test.YtcjfidfealifhaaGreatProg
import Derived.WalkKit
/- The framework, part 1. No program in it. -/
/- A renaming of memory: values, blocks, worlds of a small heap, and those of the run. No program in it. -/
set_option linter.unusedVariables false
set_option linter.unusedSimpArgs false
namespace Go.Proofs.YtcjfidfealifhaaGreat.Vm
open Go

/-- Where a name lies: its block; an open one's capacity in elements, and how many cells an element has (0: there is none). -/
structure Slot where
  blk : Nat
  cap : Option (Nat × Nat)
  base : Nat := 0

/-- A name of no block: a slice that is nil. -/
def Slot.gone (s : Slot) : Bool := match s.cap with
  | some (_, 0) => true
  | _ => false

/-- Nothing, and no room. -/
def Slot.thin (s : Slot) : Bool := match s.cap with
  | some (0, 0) => true
  | some (1, 0) => true
  | _ => false
theorem thin_of {s : Slot} {k : Nat} (h : s.cap = some (k, 0)) (hk : k ≤ 1) : s.thin = true := by
  unfold Slot.thin; rw [h]
  match k, hk with
  | 0, _ => rfl
  | 1, _ => rfl
theorem thin_cap {s : Slot} {c : Nat} (h : s.cap = some (c + 1, 0)) (ht : s.thin = true) : c = 0 := by
  unfold Slot.thin at ht; rw [h] at ht
  match c with
  | 0 => rfl
  | c + 1 => cases ht

theorem gone_none {s : Slot} (h : s.cap = none) : s.gone = false := by unfold Slot.gone; rw [h]
theorem gone_zero {s : Slot} {k : Nat} (h : s.cap = some (k, 0)) : s.gone = true := by unfold Slot.gone; rw [h]; rfl
theorem gone_pos {s : Slot} {k sz : Nat} (h : s.cap = some (k, sz)) (hz : 0 < sz) : s.gone = false := by
  unfold Slot.gone; rw [h]
  split
  · rename_i he; cases he; omega
  · rfl

abbrev Ren := Nat → Option Slot

/-- A value of names, and one of blocks. -/
inductive VRel (ρ : Ren) : Value → Value → Prop
  | bool (b : Bool) : VRel ρ (.bool b) (.bool b)
  | int (k : IntKind) (n : Int) : VRel ρ (.int k n) (.int k n)
  | string (s : ByteArray) : VRel ρ (.string s) (.string s)
  | nilPtr : VRel ρ (.pointer none) (.pointer none)
  | ptr {i off : Nat} {s : Slot} (h : ρ i = some s) (hg : s.gone = false := by rfl) : VRel ρ (.pointer (some ⟨i, off, none⟩)) (.pointer (some ⟨s.blk, s.base + off, none⟩))
  | nilSlice : VRel ρ (.slice none 0 0) (.slice none 0 0)
  | slice {i off n c : Nat} {s : Slot} (h : ρ i = some s) (hc : s.cap = none) :
      VRel ρ (.slice (some ⟨i, off, none⟩) n c) (.slice (some ⟨s.blk, s.base + off, none⟩) n c)
  | oslice {i off n e k sz : Nat} {s : Slot} (h : ρ i = some s) (hc : s.cap = some (k, sz)) (hz : 0 < sz) (he : e * sz = off) (hn : e + n ≤ k) :
      VRel ρ (.slice (some ⟨i, off, none⟩) n 0) (.slice (some ⟨s.blk, s.base + off, none⟩) n (k - e))
  | ghost {i : Nat} {s : Slot} (h : ρ i = some s) (hg : s.cap = some (0, 0)) : VRel ρ (.slice (some ⟨i, 0, none⟩) 0 0) (.slice none 0 0)
  | hollow {i c : Nat} {s : Slot} (h : ρ i = some s) (hg : s.cap = some (c + 1, 0)) : VRel ρ (.slice (some ⟨i, 0, none⟩) 0 0) (.slice (some ⟨s.blk, s.base, none⟩) 0 c)
  | nilMap : VRel ρ (.map none) (.map none)
  | map {i : Nat} {s : Slot} (h : ρ i = some s) (hg : s.gone = false := by rfl) : VRel ρ (.map (some i)) (.map (some s.blk))
  | nilFunc : VRel ρ .nilFunc .nilFunc
  | func {fn : Fn} {f f' c c' : Array Value} (hf : f.size = f'.size) (hff : ∀ (i : Nat) v v', f[i]? = some v → f'[i]? = some v' → VRel ρ v v')
      (hc : c.size = c'.size) (hcc : ∀ (i : Nat) v v', c[i]? = some v → c'[i]? = some v' → VRel ρ v v') : VRel ρ (.func fn f c) (.func fn f' c')
  | nilIface : VRel ρ .nilIface .nilIface
  | iface (t : TypeId) {v v' : Value} (h : VRel ρ v v') : VRel ρ (.iface t v) (.iface t v')
  | agg {c c' : Array Value} (hc : c.size = c'.size) (hcc : ∀ (i : Nat) v v', c[i]? = some v → c'[i]? = some v' → VRel ρ v v') : VRel ρ (.agg c) (.agg c')
  | tuple {c c' : Array Value} (hc : c.size = c'.size) (hcc : ∀ (i : Nat) v v', c[i]? = some v → c'[i]? = some v' → VRel ρ v v') : VRel ρ (.tuple c) (.tuple c')

/-- One by one. -/
def LRel (ρ : Ren) (c c' : List Value) : Prop := c.length = c'.length ∧ ∀ (i : Nat) v v', c[i]? = some v → c'[i]? = some v' → VRel ρ v v'

/-- More names. -/
def Ext (ρ ρ' : Ren) : Prop := ∀ i s, ρ i = some s → ρ' i = some s

theorem Ext.refl (ρ : Ren) : Ext ρ ρ := fun _ _ h => h
theorem Ext.trans {ρ ρ1 ρ2 : Ren} (h : Ext ρ ρ1) (k : Ext ρ1 ρ2) : Ext ρ ρ2 := fun i s hs => k i s (h i s hs)

theorem VRel.mono {ρ ρ' : Ren} (h : Ext ρ ρ') {v v' : Value} (hv : VRel ρ v v') : VRel ρ' v v' := by
  induction hv with
  | bool b => exact .bool b
  | int k n => exact .int k n
  | string s => exact .string s
  | nilPtr => exact .nilPtr
  | ptr hi hg => exact .ptr (h _ _ hi) hg
  | nilSlice => exact .nilSlice
  | slice hi hc => exact .slice (h _ _ hi) hc
  | oslice hi hc hz he hn => exact .oslice (h _ _ hi) hc hz he hn
  | nilMap => exact .nilMap
  | map hi hg => exact .map (h _ _ hi) hg
  | ghost hi hg => exact .ghost (h _ _ hi) hg
  | hollow hi hg => exact .hollow (h _ _ hi) hg
  | nilFunc => exact .nilFunc
  | func hf _ hc _ ih1 ih2 => exact .func hf ih1 hc ih2
  | nilIface => exact .nilIface
  | iface t _ ih => exact .iface t ih
  | agg hc _ ih => exact .agg hc ih
  | tuple hc _ ih => exact .tuple hc ih

theorem LRel.mono {ρ ρ' : Ren} (h : Ext ρ ρ') {c c' : List Value} (hv : LRel ρ c c') : LRel ρ' c c' :=
  ⟨hv.1, fun i v v' h1 h2 => (hv.2 i v v' h1 h2).mono h⟩

/-- Names of names. -/
def compR (σ ρ : Ren) : Ren := fun j => (σ j).bind fun s => if s.gone then some s else ρ s.blk

/-- Such names: plain ones, and those of no block. -/
def Plain (σ : Ren) : Prop := ∀ j s, σ j = some s → s.cap = some (0, 0) ∨ (s.cap = none ∧ s.base = 0)

theorem Plain.real {σ : Ren} (h : Plain σ) {j : Nat} {s : Slot} (hj : σ j = some s) (hg : s.gone = false) : s.cap = none ∧ s.base = 0 := by
  rcases h j s hj with h | h
  · rw [gone_zero h] at hg; cases hg
  · exact h

theorem Plain.thin {σ : Ren} (h : Plain σ) {j : Nat} {s : Slot} (hj : σ j = some s) (hg : s.gone = true) : s.thin = true := by
  rcases h j s hj with h | ⟨h, _⟩
  · exact thin_of h (by omega)
  · rw [gone_none h] at hg; cases hg

theorem comp_real {σ ρ : Ren} {j : Nat} {s : Slot} (h : σ j = some s) (hg : s.gone = false) : compR σ ρ j = ρ s.blk := by
  unfold Vm.compR; rw [h]; simp [hg]
theorem comp_gone {σ ρ : Ren} {j : Nat} {s : Slot} (h : σ j = some s) (hg : s.gone = true) : compR σ ρ j = some s := by
  unfold Vm.compR; rw [h]; simp [hg]

theorem VRel.comp {σ ρ : Ren} (hσ : Plain σ) {a b : Value} (h : VRel σ a b) : ∀ {c : Value}, VRel ρ b c → VRel (compR σ ρ) a c := by
  have key : ∀ (f g h : Array Value), f.size = g.size → g.size = h.size → (∀ (i : Nat) v v', f[i]? = some v → g[i]? = some v' → ∀ {c}, VRel ρ v' c → VRel (Vm.compR σ ρ) v c) →
      (∀ (i : Nat) v v', g[i]? = some v → h[i]? = some v' → VRel ρ v v') → ∀ (i : Nat) v v', f[i]? = some v → h[i]? = some v' → VRel (Vm.compR σ ρ) v v' := by
    intro f g h h1 h2 hx hy i v v' hv hv'
    have hi : i < g.size := by have := (Array.getElem?_eq_some_iff.1 hv).1; omega
    exact hx i v g[i] hv (by simp [hi]) (hy i g[i] v' (by simp [hi]) hv')
  induction h with
  | ptr h hg =>
    intro c hc
    rw [(hσ.real h hg).2, Nat.zero_add] at hc
    cases hc with | ptr h' hg' => exact .ptr (by rw [comp_real h hg]; exact h') hg'
  | slice h hc0 =>
    intro c hc
    have hg := gone_none hc0
    rw [(hσ.real h hg).2, Nat.zero_add] at hc
    cases hc with
    | slice h' hc' => exact .slice (by rw [comp_real h hg]; exact h') hc'
    | oslice h' hc' hz he hn => exact .oslice (by rw [comp_real h hg]; exact h') hc' hz he hn
    | ghost h' hg' => exact .ghost (by rw [comp_real h hg]; exact h') hg'
    | hollow h' hg' => exact .hollow (by rw [comp_real h hg]; exact h') hg'
  | oslice h hc hz => intro c _; rw [(hσ.real h (gone_pos hc hz)).1] at hc; cases hc
  | ghost h hg => intro c hc; cases hc; exact .ghost (comp_gone h (gone_zero hg)) hg
  | hollow h hg =>
    intro c _
    rcases hσ _ _ h with q | ⟨q, _⟩
    · rw [hg] at q; cases q
    · rw [hg] at q; cases q
  | map h hg => intro c hc; cases hc with | map h' hg' => exact .map (by rw [comp_real h hg]; exact h') hg'
  | func hf _ hc _ ih1 ih2 => intro c hx; cases hx with
    | func hf' hff' hc' hcc' => exact .func (hf.trans hf') (key _ _ _ hf hf' ih1 hff') (hc.trans hc') (key _ _ _ hc hc' ih2 hcc')
  | iface t _ ih => intro c hc; cases hc with | iface _ h' => exact .iface t (ih h')
  | agg hc _ ih => intro c hx; cases hx with | agg hc' hcc' => exact .agg (hc.trans hc') (key _ _ _ hc hc' ih hcc')
  | tuple hc _ ih => intro c hx; cases hx with | tuple hc' hcc' => exact .tuple (hc.trans hc') (key _ _ _ hc hc' ih hcc')
  | bool b => intro c hc; cases hc; exact .bool b
  | int k n => intro c hc; cases hc; exact .int k n
  | string s => intro c hc; cases hc; exact .string s
  | nilPtr => intro c hc; cases hc; exact .nilPtr
  | nilSlice => intro c hc; cases hc; exact .nilSlice
  | nilMap => intro c hc; cases hc; exact .nilMap
  | nilFunc => intro c hc; cases hc; exact .nilFunc
  | nilIface => intro c hc; cases hc; exact .nilIface

theorem LRel.comp {σ ρ : Ren} (hσ : Plain σ) {a b c : List Value} (h : LRel σ a b) (k : LRel ρ b c) : LRel (compR σ ρ) a c := by
  refine ⟨h.1.trans k.1, fun i v v' hv hv' => ?_⟩
  have hi : i < b.length := by have := (List.getElem?_eq_some_iff.1 hv).1; have := h.1; omega
  exact (h.2 i v b[i] hv (by simp [hi])).comp hσ (k.2 i b[i] v' (by simp [hi]) hv')

end Go.Proofs.YtcjfidfealifhaaGreat.Vm

/- What every world bears: nothing. -/
namespace Go.Proofs.YtcjfidfealifhaaGreat.Vm
open Go
/-- Blocks below it are no name's. -/
def lowB : Nat := 0
def Base (_ : Array Obj) : Prop := True
theorem base_keep {h h' : Array Obj} (_ : ∀ b, b < lowB → h'[b]? = h[b]?) (hb : Base h) : Base h' := hb
end Go.Proofs.YtcjfidfealifhaaGreat.Vm

/- A small heap of names over a run's world; what a piece of code does to it. No program in it. -/
set_option linter.unusedVariables false
set_option linter.unusedSimpArgs false
namespace Go.Proofs.YtcjfidfealifhaaGreat.Vm
open Go

inductive VObj where
  | cells (c : List Value) (elem : TypeId) (fr : Nat × Nat)
  | opn (c : List Value) (elem : TypeId) (sz : Nat)
  | map (es : List (Value × Value × Nat)) (clock : Nat)
  | ro (c : List Value)
  | win (c : List Value) (sz : Nat)
  | emp

/-- Is it an argument's, which nobody writes? -/
def VObj.fixed : VObj → Bool
  | .ro _ => true
  | .win _ _ => true
  | .emp => true
  | _ => false

def VObj.isEmp : VObj → Bool
  | .emp => true
  | _ => false

/-- May it be nothing? -/
def VObj.void : VObj → Bool
  | .opn [] _ _ => true
  | .win [] _ => true
  | .emp => true
  | _ => false

abbrev Heap := Nat → Option VObj

def upd (V : Heap) (i : Nat) (o : Option VObj) : Heap := fun j => if j = i then o else V j

/-- An object of names at a slot, and the run's. -/
inductive ORel (ρ : Ren) (s : Slot) : VObj → Obj → Prop
  | cells {c : List Value} {c' : Array Value} (elem : TypeId) (fr : Nat × Nat) (hs : s.cap = none) (hb : s.base = 0) (h : LRel ρ c c'.toList) : ORel ρ s (.cells c elem fr) (.cells c' elem fr)
  | opn {c c1 c2 : List Value} {c' : Array Value} {k sz : Nat} (elem : TypeId) (hs : s.cap = some (k, sz)) (hb : s.base = 0) (h : LRel ρ c c1) (hc : c'.toList = c1 ++ c2) (hk : c'.size = k * sz) (hz : 0 < sz) (fr : Nat × Nat) (hf : (c'.size ≤ fr.1 ∧ sz = 1) ∨ (fr.2 = 0 ∧ k ≤ 9223372036854775807)) : ORel ρ s (.opn c elem sz) (.cells c' elem fr)
  | map {es : List (Value × Value × Nat)} {es' : Array MapEntry} {clock : Nat} (hs : s.cap = none) (hk : LRel ρ (es.map (·.1)) (es'.toList.map (·.key))) (hv : LRel ρ (es.map (·.2.1)) (es'.toList.map (·.val)))
      (hb : es.map (·.2.2) = es'.toList.map (·.born)) : ORel ρ s (.map es clock) (.map es' clock)
  | ro {c : List Value} {c' : Array Value} (elem : TypeId) (fr : Nat × Nat) (hs : s.cap = none) (h : LRel ρ c ((c'.toList.drop s.base).take c.length)) : ORel ρ s (.ro c) (.cells c' elem fr)
  | win {c : List Value} {c' : Array Value} {k sz : Nat} (elem : TypeId) (fr : Nat × Nat) (hs : s.cap = some (k, sz)) (hz : 0 < sz) (h : LRel ρ c ((c'.toList.drop s.base).take c.length)) : ORel ρ s (.win c sz) (.cells c' elem fr)

theorem ORel.mono {ρ ρ' : Ren} (h : Ext ρ ρ') {s : Slot} {o : VObj} {o' : Obj} (hv : ORel ρ s o o') : ORel ρ' s o o' := by
  cases hv with
  | cells e fr hs hb hl => exact .cells e fr hs hb (hl.mono h)
  | opn e hs hb hl hc hk hz fr hf => exact .opn e hs hb (hl.mono h) hc hk hz fr hf
  | map hs hk hv hb => exact .map hs (hk.mono h) (hv.mono h) hb
  | ro e fr hs hl => exact .ro e fr hs (hl.mono h)
  | win e fr hs hz hl => exact .win e fr hs hz (hl.mono h)

/-- Nothing at a slot. -/
structure Void (s : Slot) (o : VObj) : Prop where
  gone : s.gone = true
  void : o.void = true
  thin : o.fixed = true ∨ s.thin = true

/-- An object at a slot, in the world. -/
def At (ρ : Ren) (w : World) (s : Slot) (o : VObj) : Prop := Void s o ∨ (s.gone = false ∧ ∃ o', w.heap[s.blk]? = some o' ∧ ORel ρ s o o')

/-- The blocks of a small heap. -/
def Blks (ρ : Ren) (V : Heap) (b : Nat) : Prop := ∃ i o s, V i = some o ∧ o.fixed = false ∧ ρ i = some s ∧ s.gone = false ∧ s.blk = b

/-- What each world that is met bears (the seat's own, VmA0); the small heap does not touch it. -/
structure BaseOk (ρ : Ren) (V : Heap) (w : World) : Prop where
  val : Base w.heap
  low : ∀ b, b < lowB → b < w.heap.size ∧ ¬ Blks ρ V b

/-- A world at a law's begin. -/
def BaseW (w : World) : Prop := Base w.heap ∧ ∀ b, b < lowB → b < w.heap.size

theorem BaseOk.of {ρ : Ren} {V : Heap} {w : World} (h : BaseW w) (hf : ∀ i o, V i = some o → o.fixed = true) : BaseOk ρ V w :=
  ⟨h.1, fun b hb => ⟨h.2 b hb, fun ⟨i, o, _, hi, ho, _⟩ => by rw [hf i o hi] at ho; cases ho⟩⟩

theorem BaseOk.sub {ρ ρ' : Ren} {V V' : Heap} {w : World} (h : BaseOk ρ V w) (hb : ∀ b, Blks ρ' V' b → Blks ρ V b) : BaseOk ρ' V' w :=
  ⟨h.val, fun b hl => ⟨(h.low b hl).1, fun hx => (h.low b hl).2 (hb b hx)⟩⟩

/-- The small heap lies in the world, each block apart from the others. -/
structure Sim (ρ : Ren) (V : Heap) (w : World) : Prop where
  has : ∀ i o, V i = some o → ∃ s, ρ i = some s ∧ At ρ w s o
  apart : ∀ i j o p s t, i ≠ j → V i = some o → V j = some p → ρ i = some s → ρ j = some t → s.gone = false → t.gone = false → (o.fixed && p.fixed) = false → s.blk ≠ t.blk
  base : BaseOk ρ V w

theorem At.emp {ρ : Ren} {w : World} {s : Slot} {o : VObj} (h : At ρ w s o) (he : o.isEmp = true) : s.gone = true := by
  rcases h with h | ⟨_, o', _, h⟩
  · exact h.gone
  · cases h <;> cases he

theorem Sim.at_ {ρ : Ren} {V : Heap} {w : World} (h : Sim ρ V w) {i : Nat} {o : VObj} {s : Slot} (hV : V i = some o) (hi : ρ i = some s) (hg : s.gone = false) : ∃ o', w.heap[s.blk]? = some o' ∧ ORel ρ s o o' := by
  obtain ⟨t, h1, h2⟩ := h.has i o hV
  rw [hi] at h1; cases h1
  rcases h2 with ⟨h2, _, _⟩ | ⟨_, h2⟩
  · rw [hg] at h2; cases h2
  · exact h2

theorem Sim.real {ρ : Ren} {V : Heap} {w : World} (h : Sim ρ V w) {i : Nat} {o : VObj} (hV : V i = some o) (hv : o.void = false) : ∃ s o', ρ i = some s ∧ s.gone = false ∧ w.heap[s.blk]? = some o' ∧ ORel ρ s o o' := by
  obtain ⟨t, h1, h2⟩ := h.has i o hV
  rcases h2 with ⟨_, h2, _⟩ | ⟨h3, o', h4, h5⟩
  · rw [hv] at h2; cases h2
  · exact ⟨t, o', h1, h3, h4, h5⟩

theorem At.mono {ρ ρ' : Ren} (h : Ext ρ ρ') {w w' : World} {s : Slot} {o : VObj} (hw : s.gone = false → w'.heap[s.blk]? = w.heap[s.blk]?) (k : At ρ w s o) : At ρ' w' s o := by
  rcases k with k | ⟨k, o', h1, h2⟩
  · exact .inl k
  · exact .inr ⟨k, o', by rw [hw k]; exact h1, h2.mono h⟩

/-- What lies beside the small heap is as it was; what came is new, or was of the small heap. -/
structure Keep (ρ : Ren) (V : Heap) (w : World) (ρ' : Ren) (V' : Heap) (w' : World) : Prop where
  os : w'.os = w.os
  tape : w'.tape = w.tape
  output : w'.output = w.output
  size : w.heap.size ≤ w'.heap.size
  block : ∀ b, b < w.heap.size → ¬ Blks ρ V b → w'.heap[b]? = w.heap[b]?
  new : ∀ b, Blks ρ' V' b → Blks ρ V b ∨ w.heap.size ≤ b

theorem BaseOk.keep {ρ ρ' : Ren} {V V' : Heap} {w w' : World} (h : BaseOk ρ V w) (k : Keep ρ V w ρ' V' w') : BaseOk ρ' V' w' := by
  refine ⟨base_keep (fun b hb => k.block b (h.low b hb).1 (h.low b hb).2) h.val, fun b hb => ⟨Nat.lt_of_lt_of_le (h.low b hb).1 k.size, fun hx => ?_⟩⟩
  rcases k.new b hx with h1 | h1
  · exact (h.low b hb).2 h1
  · have := (h.low b hb).1; omega

theorem Keep.refl (ρ : Ren) (V : Heap) (w : World) : Keep ρ V w ρ V w := ⟨rfl, rfl, rfl, Nat.le_refl _, fun _ _ _ => rfl, fun _ h => .inl h⟩

theorem Keep.trans {ρ ρ1 ρ2 : Ren} {V V1 V2 : Heap} {w w1 w2 : World} (h : Keep ρ V w ρ1 V1 w1) (k : Keep ρ1 V1 w1 ρ2 V2 w2) : Keep ρ V w ρ2 V2 w2 where
  os := k.os.trans h.os
  tape := k.tape.trans h.tape
  output := k.output.trans h.output
  size := Nat.le_trans h.size k.size
  block b hb hn := by
    have h1 : ¬ Blks ρ1 V1 b := fun hb1 => (h.new b hb1).elim hn (fun hl => by omega)
    rw [k.block b (Nat.lt_of_lt_of_le hb h.size) h1, h.block b hb hn]
  new b hb := (k.new b hb).elim (fun h1 => h.new b h1) (fun hl => .inr (Nat.le_trans h.size hl))

/-- Less may be known of the heap. -/
theorem Sim.sub {ρ : Ren} {V V' : Heap} {w : World} (h : Sim ρ V w) (hV : ∀ i o, V' i = some o → V i = some o) : Sim ρ V' w :=
  ⟨fun i o hi => h.has i o (hV i o hi), fun i j o p s t hij hi hj => h.apart i j o p s t hij (hV i o hi) (hV j p hj), h.base.sub fun b ⟨i, o, s, hi, r⟩ => ⟨i, o, s, hV i o hi, r⟩⟩

theorem Keep.sub {ρ ρ' : Ren} {V V' V2 : Heap} {w w' : World} (h : Keep ρ V w ρ' V' w') (hV : ∀ i o, V2 i = some o → V' i = some o) : Keep ρ V w ρ' V2 w' :=
  { h with new := fun b ⟨i, o, s, hi, r⟩ => h.new b ⟨i, o, s, hV i o hi, r⟩ }

/-- Nothing but one block was turned. -/
structure Wrote (b : Nat) (w w' : World) : Prop where
  os : w'.os = w.os
  tape : w'.tape = w.tape
  output : w'.output = w.output
  size : w'.heap.size = w.heap.size
  block : ∀ k, k ≠ b → w'.heap[k]? = w.heap[k]?

theorem Wrote.refl (b : Nat) (w : World) : Wrote b w w := ⟨rfl, rfl, rfl, rfl, fun _ _ => rfl⟩
theorem Wrote.trans {b : Nat} {w w1 w2 : World} (h : Wrote b w w1) (k : Wrote b w1 w2) : Wrote b w w2 :=
  ⟨k.os.trans h.os, k.tape.trans h.tape, k.output.trans h.output, k.size.trans h.size, fun i hi => (k.block i hi).trans (h.block i hi)⟩

/-- A name's object is turned. -/
theorem sim_put {ρ : Ren} {V : Heap} {w w' : World} (hs : Sim ρ V w) {i : Nat} {o o1 : VObj} {o' : Obj} {s : Slot} (hg : V i = some o) (hf : o.fixed = false) (hf1 : o1.fixed = false) (hi : ρ i = some s) (hgo : s.gone = false) (hw : Wrote s.blk w w')
    (ho : w'.heap[s.blk]? = some o') (hr : ORel ρ s o1 o') : Sim ρ (upd V i (some o1)) w' ∧ Keep ρ V w ρ (upd V i (some o1)) w' := by
  have hk : Keep ρ V w ρ (upd V i (some o1)) w' := by
    refine ⟨hw.os, hw.tape, hw.output, Nat.le_of_eq hw.size.symm, ?_, ?_⟩
    · intro b hb hn
      exact hw.block b fun e => hn ⟨i, o, s, hg, hf, hi, hgo, e.symm⟩
    · rintro b ⟨j, p, t, hj, hpf, ht, ht', hb⟩
      simp only [upd] at hj
      split at hj
      · rename_i he; subst he
        exact .inl ⟨j, o, t, hg, hf, ht, ht', hb⟩
      · exact .inl ⟨j, p, t, hj, hpf, ht, ht', hb⟩
  refine ⟨⟨?_, ?_, hs.base.keep hk⟩, hk⟩
  · intro j p hj
    simp only [upd] at hj
    split at hj
    · rename_i he; subst he; cases hj
      exact ⟨s, hi, .inr ⟨hgo, o', ho, hr⟩⟩
    · rename_i he
      obtain ⟨t, ht, hp⟩ := hs.has j p hj
      exact ⟨t, ht, hp.mono (.refl _) fun ht' => hw.block _ (hs.apart j i _ _ _ _ he hj hg ht hi ht' hgo (by simp [hf]))⟩
  · intro j k p q t u hjk hj hk ht hu ht' hu' hfx
    have hx : ∀ x y, upd V i (some o1) x = some y → ∃ q', V x = some q' ∧ q'.fixed = y.fixed := by
      intro x y hxy
      by_cases he : x = i
      · subst he
        simp only [upd, if_true, Option.some.injEq] at hxy
        subst hxy
        exact ⟨_, hg, hf.trans hf1.symm⟩
      · simp only [upd, if_neg he] at hxy
        exact ⟨_, hxy, rfl⟩
    obtain ⟨_, hj', e1⟩ := hx j p hj
    obtain ⟨_, hk', e2⟩ := hx k q hk
    exact hs.apart j k _ _ t u hjk hj' hk' ht hu ht' hu' (by rw [e1, e2]; exact hfx)

/-- A new block at the end. -/
structure Grew (o' : Obj) (w w' : World) : Prop where
  os : w'.os = w.os
  tape : w'.tape = w.tape
  output : w'.output = w.output
  heap : w'.heap = w.heap.push o'

def extR (ρ : Ren) (i : Nat) (s : Slot) : Ren := fun j => if j = i then some s else ρ j

theorem Ext.extR {ρ : Ren} {i : Nat} (hi : ρ i = none) (s : Slot) : Ext ρ (extR ρ i s) := by
  intro j t ht
  unfold Vm.extR
  split
  · rename_i he; subst he; rw [hi] at ht; cases ht
  · exact ht

/-- A name more. What it stands for is new, or is of nothing. -/
theorem sim_add {ρ : Ren} {V : Heap} {w w' : World} (hs : Sim ρ V w) {i : Nat} (hi : ρ i = none) {o : VObj} {s : Slot} (ho : s.gone = false → w.heap.size ≤ s.blk) (hw : w'.os = w.os ∧ w'.tape = w.tape ∧ w'.output = w.output ∧ w.heap.size ≤ w'.heap.size)
    (hb : ∀ b, b < w.heap.size → w'.heap[b]? = w.heap[b]?) (hr : At (extR ρ i s) w' s o) : Sim (extR ρ i s) (upd V i (some o)) w' ∧ Keep ρ V w (extR ρ i s) (upd V i (some o)) w' := by
  have hpre : Ext ρ (extR ρ i s) := Ext.extR hi _
  have hold : ∀ j p t, upd V i (some o) j = some p → extR ρ i s j = some t → (j = i ∧ p = o ∧ t = s) ∨ (j ≠ i ∧ V j = some p ∧ ρ j = some t ∧ (t.gone = false → t.blk < w.heap.size)) := by
    intro j p t hj ht
    by_cases he : j = i
    · subst he
      simp only [upd, if_true, Option.some.injEq] at hj
      simp only [extR, if_true, Option.some.injEq] at ht
      exact .inl ⟨rfl, hj.symm, ht.symm⟩
    · simp only [upd, if_neg he] at hj
      simp only [extR, if_neg he] at ht
      refine .inr ⟨he, hj, ht, fun hg => ?_⟩
      obtain ⟨_, h2, _⟩ := hs.at_ hj ht hg
      exact (Array.getElem?_eq_some_iff.1 h2).1
  have hk : Keep ρ V w (extR ρ i s) (upd V i (some o)) w' := by
    refine ⟨hw.1, hw.2.1, hw.2.2.1, hw.2.2.2, fun b hb' _ => hb b hb', ?_⟩
    · rintro b ⟨j, p, t, hj, hpf, ht, ht', hb⟩
      rcases hold j p t hj ht with ⟨h1, h2, h3⟩ | ⟨h1, h2, h3, h4⟩
      · subst h3; exact .inr (hb ▸ ho ht')
      · exact .inl ⟨j, p, t, h2, hpf, h3, ht', hb⟩
  refine ⟨⟨?_, ?_, hs.base.keep hk⟩, hk⟩
  · intro j p hj
    by_cases he : j = i
    · subst he
      simp only [upd, if_true, Option.some.injEq] at hj
      subst hj
      exact ⟨_, by simp [extR], hr⟩
    · simp only [upd, if_neg he] at hj
      obtain ⟨t, h1, h2⟩ := hs.has j p hj
      refine ⟨t, hpre _ _ h1, h2.mono hpre fun hg => ?_⟩
      obtain ⟨_, h2, _⟩ := hs.at_ hj h1 hg
      exact hb _ (Array.getElem?_eq_some_iff.1 h2).1
  · intro j k p q t u hjk hj hk ht hu ht' hu' hfx
    rcases hold j p t hj ht with ⟨h1, h2, h3⟩ | ⟨h1, h2, h3, h4⟩ <;> rcases hold k q u hk hu with ⟨k1, k2, k3⟩ | ⟨k1, k2, k3, k4⟩
    · exact (hjk (h1.trans k1.symm)).elim
    · subst h3; have := ho ht'; have := k4 hu'; omega
    · subst k3; have := ho hu'; have := h4 ht'; omega
    · exact hs.apart j k p q t u hjk h2 k2 h3 k3 ht' hu' hfx

theorem sim_new {ρ : Ren} {V : Heap} {w w' : World} (hs : Sim ρ V w) {i : Nat} (hi : ρ i = none) {o : VObj} {o' : Obj} {cap : Option (Nat × Nat)} (hc : (⟨w.heap.size, cap, 0⟩ : Slot).gone = false) (hw : Grew o' w w')
    (hr : ORel (extR ρ i ⟨w.heap.size, cap, 0⟩) ⟨w.heap.size, cap, 0⟩ o o') :
    Sim (extR ρ i ⟨w.heap.size, cap, 0⟩) (upd V i (some o)) w' ∧ Keep ρ V w (extR ρ i ⟨w.heap.size, cap, 0⟩) (upd V i (some o)) w' :=
  sim_add hs hi (fun _ => Nat.le_refl _) ⟨hw.os, hw.tape, hw.output, by rw [hw.heap]; simp⟩ (fun b hb => by rw [hw.heap, Array.getElem?_push, if_neg (by omega)]) (.inr ⟨hc, o', by rw [hw.heap]; simp, hr⟩)

/-- The slot of nothing. -/
def nowhere : Slot := ⟨0, some (0, 0), 0⟩

theorem sim_void {ρ : Ren} {V : Heap} {w : World} (hs : Sim ρ V w) {i : Nat} (hi : ρ i = none) {o : VObj} (ho : o.void = true) : Sim (extR ρ i nowhere) (upd V i (some o)) w ∧ Keep ρ V w (extR ρ i nowhere) (upd V i (some o)) w :=
  sim_add hs hi (fun h => by cases h) ⟨rfl, rfl, rfl, Nat.le_refl _⟩ (fun _ _ => rfl) (.inl ⟨rfl, ho, .inr rfl⟩)

end Go.Proofs.YtcjfidfealifhaaGreat.Vm

/- Code over a small heap: the rules of sequence, test, block, loop, call. No program in it. -/
set_option linter.unusedVariables false
set_option linter.unusedSimpArgs false
namespace Go.Proofs.YtcjfidfealifhaaGreat.Vm
open Go

/-- What is known at a point: some temporaries; the small heap; how many names there are. -/
structure St where
  env : List (Nat × Value)
  heap : Heap
  n : Nat

def lkp {α : Type} : List (Nat × α) → Nat → Option α
  | [], _ => none
  | (k, v) :: r, t => if t = k then some v else lkp r t

def EnvRel (ρ : Ren) (env : List (Nat × Value)) (tmps : Array Value) : Prop := ∀ t v, lkp env t = some v → ∃ v', tmps[t]? = some v' ∧ VRel ρ v v'

/-- A state of names and one of the run. m: how many temporaries the function has; g: how many names stay. -/
structure Rel (m g : Nat) (ρ : Ren) (s : St) (a : Act) (w : World) : Prop where
  bd : ∀ i, s.n ≤ i → ρ i = none
  old : g ≤ s.n
  sim : Sim ρ s.heap w
  env : EnvRel ρ s.env a.tmps
  size : a.tmps.size = m
  defers : a.defers = []

/-- What comes of it: an end that Q lets be. -/
def Post (m g : Nat) (Q : Exit → St → Prop) (ρ : Ren) (s : St) (w : World) : Exit → Act → World → Prop :=
  fun e a' w' => ∃ s' ρ', Q e s' ∧ Rel m g ρ' s' a' w' ∧ Keep ρ s.heap w ρ' s'.heap w' ∧ ∀ i, i < g → ρ' i = ρ i

def VW (P : Program) (m g : Nat) (c : Code) (Q : Exit → St → Prop) (s : St) : Prop :=
  ∀ ρ a w, Rel m g ρ s a w → c.wp P (Post m g Q ρ s w) a w

theorem VW.mono {P : Program} {m g : Nat} {c : Code} {Q Q' : Exit → St → Prop} {s : St} (h : VW P m g c Q s) (hq : ∀ e s, Q e s → Q' e s) : VW P m g c Q' s :=
  fun ρ a w hr => wp_mono (h ρ a w hr) fun _ _ _ ⟨s', ρ', hQ, r⟩ => ⟨s', ρ', hq _ _ hQ, r⟩

def then_ (N : St → Prop) (Q : Exit → St → Prop) : Exit → St → Prop
  | .normal, s => N s
  | e, s => Q e s

section
variable {P : Program} {m g : Nat} {Q : Exit → St → Prop} {s : St}

theorem post_trans {ρ ρ1 : Ren} {s s1 : St} {w w1 : World} (k : Keep ρ s.heap w ρ1 s1.heap w1) (e1 : ∀ i, i < g → ρ1 i = ρ i) {e : Exit} {a : Act} {w2 : World} (h : Post m g Q ρ1 s1 w1 e a w2) : Post m g Q ρ s w e a w2 :=
  let ⟨s', ρ', hq, hr, hk, hg⟩ := h; ⟨s', ρ', hq, hr, k.trans hk, fun i hi => (hg i hi).trans (e1 i hi)⟩

theorem vw_skip (h : Q .normal s) : VW P m g .skip Q s := fun ρ _ w hr => wp_skip ⟨s, ρ, h, hr, .refl _ _ _, fun _ _ => rfl⟩
theorem vw_ret (h : Q .ret s) : VW P m g .ret Q s := fun ρ _ w hr => wp_ret ⟨s, ρ, h, hr, .refl _ _ _, fun _ _ => rfl⟩
theorem vw_exit {id : Nat} (h : Q (.exit id) s) : VW P m g (.exit id) Q s := fun ρ _ w hr => wp_exit ⟨s, ρ, h, hr, .refl _ _ _, fun _ _ => rfl⟩

theorem vw_seq {x y : Code} (h : VW P m g x (then_ (VW P m g y Q) Q) s) : VW P m g (.seq x y) Q s := by
  intro ρ a w hr
  refine wp_seq (wp_mono (h ρ a w hr) ?_)
  rintro e a1 w1 ⟨s1, ρ1, hq, hr1, hk, hg1⟩
  cases e with
  | normal => exact wp_mono (hq ρ1 a1 w1 hr1) fun _ _ _ h2 => post_trans hk hg1 h2
  | _ => exact ⟨s1, ρ1, hq, hr1, hk, hg1⟩

theorem eval_tmp {ρ : Ren} {a : Act} {w : World} (hr : Rel m g ρ s a w) {t : Nat} {v : Value} (h : lkp s.env t = some v) : ∃ v', a.eval (.tmp t) = v' ∧ VRel ρ v v' := by
  obtain ⟨v', h1, h2⟩ := hr.env t v h
  exact ⟨v', by simp [Act.eval, h1], h2⟩

theorem vw_cond {t : Nat} {b : Bool} {x y : Code} (hc : lkp s.env t = some (.bool b)) (ht : b = true → VW P m g x Q s) (hf : b = false → VW P m g y Q s) : VW P m g (.cond (.tmp t) x y) Q s := by
  intro ρ a w hr
  obtain ⟨v', h1, h2⟩ := eval_tmp hr hc
  cases h2
  exact wp_cond_split h1 (fun e => ht e ρ a w hr) (fun e => hf e ρ a w hr)
theorem vw_cond_true {t : Nat} {x y : Code} (hc : lkp s.env t = some (.bool true)) (h : VW P m g x Q s) : VW P m g (.cond (.tmp t) x y) Q s := vw_cond hc (fun _ => h) nofun
theorem vw_cond_false {t : Nat} {x y : Code} (hc : lkp s.env t = some (.bool false)) (h : VW P m g y Q s) : VW P m g (.cond (.tmp t) x y) Q s := vw_cond hc nofun (fun _ => h)

def inBlock (id : Nat) (Q : Exit → St → Prop) : Exit → St → Prop
  | .exit id', s => if id' = id then Q .normal s else Q (.exit id') s
  | e, s => Q e s

theorem vw_block {id : Nat} {c : Code} (h : VW P m g c (inBlock id Q) s) : VW P m g (.block id c) Q s := by
  intro ρ a w hr
  refine wp_block (wp_mono (h ρ a w hr) ?_)
  rintro e a1 w1 ⟨s1, ρ1, hq, hr1, hk, hg1⟩
  cases e with
  | exit id' =>
    simp only [inBlock] at hq
    simp only [Exit.inBlock]
    split <;> rename_i he
    · rw [if_pos he] at hq; exact ⟨s1, ρ1, hq, hr1, hk, hg1⟩
    · rw [if_neg he] at hq; exact ⟨s1, ρ1, hq, hr1, hk, hg1⟩
  | _ => exact ⟨s1, ρ1, hq, hr1, hk, hg1⟩

/-- A loop by its relation and its measure. -/
theorem vw_loop {c : Code} (I : Nat → St → Prop) (k0 : Nat) (h0 : I k0 s)
    (round : ∀ k s, I k s → VW P m g c (then_ (fun s' => ∃ k', k' < k ∧ I k' s') Q) s) : VW P m g (.loop c) Q s := by
  intro ρ a w hr
  refine wp_loop_ghost (fun k a1 w1 => ∃ s1 ρ1, I k s1 ∧ Rel m g ρ1 s1 a1 w1 ∧ Keep ρ s.heap w ρ1 s1.heap w1 ∧ ∀ i, i < g → ρ1 i = ρ i) k0 ⟨s, ρ, h0, hr, .refl _ _ _, fun _ _ => rfl⟩ ?_
  rintro k a1 w1 ⟨s1, ρ1, hI, hr1, hk1, hg1⟩
  refine wp_mono (round k s1 hI ρ1 a1 w1 hr1) ?_
  rintro e a2 w2 ⟨s2, ρ2, hq, hr2, hk2, hg2⟩
  cases e with
  | normal =>
    obtain ⟨k', hlt, hI'⟩ := hq
    exact ⟨k', hlt, s2, ρ2, hI', hr2, hk1.trans hk2, fun i hi => (hg2 i hi).trans (hg1 i hi)⟩
  | _ => exact ⟨s2, ρ2, hq, hr2, hk1.trans hk2, fun i hi => (hg2 i hi).trans (hg1 i hi)⟩

/-- A loop's rounds, one by one. -/
def rounds (P : Program) (m g : Nat) (c : Code) (Q : Exit → St → Prop) : Nat → St → Prop
  | 0, _ => False
  | n + 1, s => VW P m g c (then_ (rounds P m g c Q n) Q) s

theorem vw_rounds {c : Code} (n : Nat) (h : rounds P m g c Q n s) : VW P m g (.loop c) Q s := by
  intro ρ a w hr
  refine wp_loop_rounds n ?_
  suffices H : ∀ n s1 ρ1 a1 w1, rounds P m g c Q n s1 → Rel m g ρ1 s1 a1 w1 → Keep ρ s.heap w ρ1 s1.heap w1 → (∀ i, i < g → ρ1 i = ρ i) → Code.rounds P c (Post m g Q ρ s w) n a1 w1 from H n s ρ a w h hr (.refl _ _ _) (fun _ _ => rfl)
  intro n
  induction n with
  | zero => intro s1 ρ1 a1 w1 h; exact h.elim
  | succ n ih =>
    intro s1 ρ1 a1 w1 h hr1 hk1 hg1
    rw [rounds_succ]
    refine wp_mono (h ρ1 a1 w1 hr1) ?_
    rintro e a2 w2 ⟨s2, ρ2, hq, hr2, hk2, hg2⟩
    cases e with
    | normal => exact ih s2 ρ2 a2 w2 hq hr2 (hk1.trans hk2) (fun i hi => (hg2 i hi).trans (hg1 i hi))
    | _ => exact ⟨s2, ρ2, hq, hr2, hk1.trans hk2, fun i hi => (hg2 i hi).trans (hg1 i hi)⟩

/-- Less may be known. -/
theorem vw_weaken {c : Code} {env' : List (Nat × Value)} {V' : Heap} (henv : ∀ t v, lkp env' t = some v → lkp s.env t = some v) (hh : ∀ i o, V' i = some o → s.heap i = some o)
    (h : VW P m g c Q ⟨env', V', s.n⟩) : VW P m g c Q s := by
  intro ρ a w hr
  refine wp_mono (h ρ a w ⟨hr.bd, hr.old, hr.sim.sub hh, fun t v hl => hr.env t v (henv t v hl), hr.size, hr.defers⟩) ?_
  rintro e a1 w1 ⟨s1, ρ1, hq, hr1, hk, hg1⟩
  refine ⟨s1, ρ1, hq, hr1, ?_, hg1⟩
  exact { hk with block := fun b hb hn => hk.block b hb (fun ⟨i, o, t, hm, r⟩ => hn ⟨i, o, t, hh i o hm, r⟩), new := fun b hb => (hk.new b hb).imp (fun ⟨i, o, t, hm, r⟩ => ⟨i, o, t, hh i o hm, r⟩) id }
end

/-- A heap, turned at some names. -/
def over (V : Heap) (L : List (Nat × Option VObj)) : Heap := fun i => (lkp L i).getD (V i)

theorem over_nil (V : Heap) : over V [] = V := rfl
theorem over_cons (V : Heap) (i : Nat) (o : Option VObj) (L : List (Nat × Option VObj)) : over V ((i, o) :: L) = upd (over V L) i o := by
  funext j
  simp only [over, lkp, upd]
  split <;> rfl

/-- A call: what it asks of a small heap, and what it gives: a value, what it turned, k names more from n on. -/
def Tri (P : Program) (f : FuncId) (args : List Value) (n k : Nat) (V : Heap) (R : Value → List (Nat × Option VObj) → Prop) : Prop :=
  ∀ ρ w args', (∀ i, n ≤ i → i < n + k → ρ i = none) → Sim ρ V w → LRel ρ args args' → Calls P f args'.toArray w fun e w' =>
    ∃ v L v' ρ', R v L ∧ e = .returned v' ∧ VRel ρ' v v' ∧ Sim ρ' (over V L) w' ∧ Keep ρ V w ρ' (over V L) w' ∧ ∀ i, ¬ (n ≤ i ∧ i < n + k) → ρ' i = ρ i

theorem Tri.mono {P : Program} {f : FuncId} {args : List Value} {n k : Nat} {V : Heap} {R R' : Value → List (Nat × Option VObj) → Prop} (h : Tri P f args n k V R) (hr : ∀ v L, R v L → R' v L) : Tri P f args n k V R' :=
  fun ρ w args' hl hs ha => (h ρ w args' hl hs ha).mono fun _ _ ⟨v, V', v', ρ', hR, r⟩ => ⟨v, V', v', ρ', hr _ _ hR, r⟩

end Go.Proofs.YtcjfidfealifhaaGreat.Vm

/- What an operation does to a small heap of names, as a function; it is what the run does. No program in it. -/
set_option linter.unusedVariables false
set_option linter.unusedSimpArgs false
namespace Go.Proofs.YtcjfidfealifhaaGreat.Vm
open Go

/-- What is to be known of a type. -/
structure TI where
  desc : TypeDesc
  size : Nat
  bytes : Nat
  zero : Value
  cmp : Bool := false
  eqOk : Bool := false

structure TyOk (P : Program) (τ : Nat → Option TI) : Prop where
  under : ∀ t i, τ t = some i → P.underlying t = some i.desc
  info : ∀ t i, τ t = some i → ∃ f, P.info? t = some f ∧ f.size = i.size ∧ f.bytes = i.bytes ∧ f.zero = some i.zero
  zero : ∀ t i, τ t = some i → ∀ ρ, VRel ρ i.zero i.zero
  cmp : ∀ t i, τ t = some i → i.cmp = true → ∃ f, P.info? t = some f ∧ f.comparable = true
  eqOk : ∀ t i, τ t = some i → i.eqOk = true → P.stoodInHeld t = false ∧ P.eqGuardType P.depth t = false

def constOk : Value → Bool
  | .bool _ | .int _ _ | .string _ | .pointer none | .slice none 0 0 | .map none | .nilFunc | .nilIface => true
  | _ => false

/-- A value that bears no name. -/
theorem vrel_const {ρ : Ren} {v : Value} (h : constOk v = true) : VRel ρ v v := by
  unfold constOk at h
  split at h <;> first | constructor | cases h

def rd (env : List (Nat × Value)) : Operand → Option Value
  | .tmp t => lkp env t
  | .const v => if constOk v then some v else none
  | .func f => some (.func (.func f) #[] #[])
  | .global _ => none

theorem rd_ok {m g : Nat} {ρ : Ren} {s : St} {a : Act} {w : World} (hr : Rel m g ρ s a w) {x : Operand} {v : Value} (h : rd s.env x = some v) : VRel ρ v (a.eval x) := by
  cases x with
  | tmp t =>
    obtain ⟨v', h1, h2⟩ := hr.env t v h
    simpa [Act.eval, h1] using h2
  | const c =>
    simp only [rd] at h
    split at h
    · cases h; exact vrel_const ‹_›
    · cases h
  | func f =>
    cases h
    exact .func rfl (fun i v v' h => by simp at h) rfl (fun i v v' h => by simp at h)
  | global g => cases h

/-- The cells of a block of names. -/
def cellsOf : VObj → Option (List Value)
  | .cells c _ _ => some c
  | .opn c _ _ => some c
  | .map _ _ => none
  | .ro c => some c
  | .win c _ => some c
  | .emp => some []

def splice (c : List Value) (off : Nat) (vs : List Value) : List Value := c.take off ++ vs ++ c.drop (off + vs.length)

def isAggB : TypeDesc → Bool
  | .struct _ | .array _ _ => true
  | _ => false

def evLoad (τ : Nat → Option TI) (V : Heap) (t : Nat) : Value → Option Value
  | .pointer (some ⟨i, off, none⟩) =>
    match τ t, (V i).bind cellsOf with
    | some ti, some c =>
      if isAggB ti.desc then (if off + ti.size ≤ c.length then some (.agg ((c.drop off).take ti.size).toArray) else none)
      else c[off]?
    | _, _ => none
  | _ => none

theorem lrel_get {ρ : Ren} {c c' : List Value} (h : LRel ρ c c') {i : Nat} {v : Value} (hv : c[i]? = some v) : ∃ v', c'[i]? = some v' ∧ VRel ρ v v' := by
  have hi : i < c'.length := h.1 ▸ (List.getElem?_eq_some_iff.1 hv).1
  exact ⟨c'[i], by simp [hi], h.2 i v _ hv (by simp [hi])⟩

theorem lrel_append {ρ : Ren} {a a' b b' : List Value} (h : LRel ρ a a') (k : LRel ρ b b') : LRel ρ (a ++ b) (a' ++ b') := by
  refine ⟨by simp [h.1, k.1], fun i v v' hv hv' => ?_⟩
  by_cases hi : i < a.length
  · rw [List.getElem?_append_left hi] at hv
    rw [List.getElem?_append_left (h.1 ▸ hi)] at hv'
    exact h.2 i v v' hv hv'
  · rw [List.getElem?_append_right (by omega)] at hv
    rw [List.getElem?_append_right (by have := h.1; omega), ← h.1] at hv'
    exact k.2 _ v v' hv hv'

theorem lrel_take {ρ : Ren} {c c' : List Value} (h : LRel ρ c c') (n : Nat) : LRel ρ (c.take n) (c'.take n) := by
  refine ⟨by simp [h.1], fun i v v' hv hv' => ?_⟩
  rw [List.getElem?_take] at hv hv'
  split at hv
  · rename_i hl; rw [if_pos hl] at hv'; exact h.2 i v v' hv hv'
  · cases hv

theorem lrel_drop {ρ : Ren} {c c' : List Value} (h : LRel ρ c c') (n : Nat) : LRel ρ (c.drop n) (c'.drop n) := by
  refine ⟨by simp [h.1], fun i v v' hv hv' => ?_⟩
  rw [List.getElem?_drop] at hv hv'
  exact h.2 _ v v' hv hv'

theorem vrel_agg {ρ : Ren} {c c' : List Value} (h : LRel ρ c c') : VRel ρ (.agg c.toArray) (.agg c'.toArray) :=
  .agg (by simpa using h.1) fun i v v' h1 h2 => h.2 i v v' (by simpa using h1) (by simpa using h2)

theorem vrel_tuple {ρ : Ren} {c c' : List Value} (h : LRel ρ c c') : VRel ρ (.tuple c.toArray) (.tuple c'.toArray) :=
  .tuple (by simpa using h.1) fun i v v' h1 h2 => h.2 i v v' (by simpa using h1) (by simpa using h2)

theorem vrel_agg_inv {ρ : Ren} {c : Array Value} {x : Value} (h : VRel ρ (.agg c) x) : ∃ c', x = .agg c' ∧ LRel ρ c.toList c'.toList := by
  cases h with
  | agg hc hcc => exact ⟨_, rfl, by simpa using hc, fun i v v' h1 h2 => hcc i v v' (by simpa using h1) (by simpa using h2)⟩

theorem vrel_tuple_inv {ρ : Ren} {c : Array Value} {x : Value} (h : VRel ρ (.tuple c) x) : ∃ c', x = .tuple c' ∧ LRel ρ c.toList c'.toList := by
  cases h with
  | tuple hc hcc => exact ⟨_, rfl, by simpa using hc, fun i v v' h1 h2 => hcc i v v' (by simpa using h1) (by simpa using h2)⟩

theorem lrel_nil {ρ : Ren} : LRel ρ [] [] := ⟨rfl, fun i v v' h => by simp at h⟩
theorem lrel_cons {ρ : Ren} {v v' : Value} {c c' : List Value} (h : VRel ρ v v') (k : LRel ρ c c') : LRel ρ (v :: c) (v' :: c') :=
  lrel_append (a := [v]) (a' := [v']) ⟨rfl, fun i x x' h1 h2 => by cases i <;> simp_all⟩ k

/-- The cells of a value. -/
theorem vrel_cells {ρ : Ren} {v v' : Value} (h : VRel ρ v v') : LRel ρ v.cells.toList v'.cells.toList := by
  have hh := h
  cases h with
  | agg hc hcc => exact ⟨by simpa [Value.cells] using hc, fun i v v' h1 h2 => hcc i v v' (by simpa [Value.cells] using h1) (by simpa [Value.cells] using h2)⟩
  | _ => exact lrel_cons hh lrel_nil

section
variable {P : Program} {τ : Nat → Option TI} {ρ : Ren} {V : Heap} {w : World}

theorem run_underlying' (hτ : TyOk P τ) {t : Nat} {ti : TI} (h : τ t = some ti) (w : World) : (underlying t).run P w = .ok ti.desc w := by
  simp [underlying, hτ.under t ti h]

theorem run_typeInfo' (hτ : TyOk P τ) {t : Nat} {ti : TI} (h : τ t = some ti) (w : World) : ∃ f, (typeInfo t).run P w = .ok f w ∧ f.size = ti.size ∧ f.bytes = ti.bytes ∧ f.zero = some ti.zero := by
  obtain ⟨f, hf, r⟩ := hτ.info t ti h
  exact ⟨f, by simp [typeInfo, hf], r⟩

theorem run_sizeOf' (hτ : TyOk P τ) {t : Nat} {ti : TI} (h : τ t = some ti) (w : World) : (sizeOf t).run P w = .ok ti.size w := by
  obtain ⟨f, hf, hs, _⟩ := run_typeInfo' hτ h w
  simp [sizeOf, hf, hs]

theorem run_zeroValue' (hτ : TyOk P τ) {t : Nat} {ti : TI} (h : τ t = some ti) (w : World) : (zeroValue t).run P w = .ok ti.zero w := by
  obtain ⟨f, hf, _, _, hz⟩ := run_typeInfo' hτ h w
  simp [zeroValue, hf, hz]

theorem run_isAgg' (hτ : TyOk P τ) {t : Nat} {ti : TI} (h : τ t = some ti) (w : World) : (isAgg t).run P w = .ok (isAggB ti.desc) w := by
  unfold isAgg
  rw [Sem.run_bind, run_underlying' hτ h w]
  cases hd : ti.desc <;> simp [isAggB]

theorem add_none (b off n : Nat) : (⟨b, off, none⟩ : Addr).add n = ⟨b, off + n, none⟩ := by
  unfold Addr.add; split <;> simp_all

theorem cell_of (w : World) {b j : Nat} {c' : Array Value} {e : TypeId} {fr : Nat × Nat} (h : w.heap[b]? = some (.cells c' e fr)) : w.cell? ⟨b, j, none⟩ = c'[j]? := by
  simp [World.cell?, h]

/-- A block of the small heap, in the world: what is read there. -/
theorem block_of (hs : Sim ρ V w) {i : Nat} {o : VObj} {c : List Value} (hg : V i = some o) (hc : cellsOf o = some c) :
    ∃ s c', ρ i = some s ∧ LRel ρ c c' ∧ ∀ j v, c'[j]? = some v → w.cell? ⟨s.blk, s.base + j, none⟩ = some v := by
  obtain ⟨s, h1, hat⟩ := hs.has i o hg
  rcases hat with ⟨_, hv, _⟩ | ⟨_, o', h2, h3⟩
  · refine ⟨s, [], h1, ?_, fun j v h => by simp at h⟩
    unfold VObj.void at hv
    split at hv
    · simp only [cellsOf, Option.some.injEq] at hc; subst hc; exact lrel_nil
    · simp only [cellsOf, Option.some.injEq] at hc; subst hc; exact lrel_nil
    · simp only [cellsOf, Option.some.injEq] at hc; subst hc; exact lrel_nil
    · cases hv
  cases h3 with
  | cells e fr hcap hb hl =>
    simp only [cellsOf, Option.some.injEq] at hc; subst hc
    refine ⟨s, _, h1, hl, fun j v hv => ?_⟩
    rw [cell_of w h2, hb, Nat.zero_add]
    simpa using hv
  | opn e hcap hb hl hcc hk hz fr hf =>
    simp only [cellsOf, Option.some.injEq] at hc; subst hc
    refine ⟨s, _, h1, hl, fun j v hv => ?_⟩
    rw [cell_of w h2, hb, Nat.zero_add, ← Array.getElem?_toList, hcc]
    rw [List.getElem?_append_left (List.getElem?_eq_some_iff.1 hv).1]
    exact hv
  | map => cases hc
  | ro e fr hcap hl =>
    simp only [cellsOf, Option.some.injEq] at hc; subst hc
    refine ⟨s, _, h1, hl, fun j v hv => ?_⟩
    rw [cell_of w h2, ← Array.getElem?_toList]
    rw [List.getElem?_take] at hv
    split at hv
    · rw [List.getElem?_drop] at hv; exact hv
    · cases hv
  | win e fr hcap hz hl =>
    simp only [cellsOf, Option.some.injEq] at hc; subst hc
    refine ⟨s, _, h1, hl, fun j v hv => ?_⟩
    rw [cell_of w h2, ← Array.getElem?_toList]
    rw [List.getElem?_take] at hv
    split at hv
    · rw [List.getElem?_drop] at hv; exact hv
    · cases hv

theorem evLoad_ok (hτ : TyOk P τ) (hs : Sim ρ V w) {t : Nat} {x x' v : Value} (hx : VRel ρ x x') (h : evLoad τ V t x = some v) :
    ∃ v', (Instr.loadAt t x').run P w = .ok v' w ∧ VRel ρ v v' := by
  unfold evLoad at h
  split at h
  case h_2 => cases h
  rename_i i off
  split at h
  case h_2 => cases h
  rename_i ti c ht hc
  cases hx with
  | ptr hi hgo =>
  rename_i s
  cases hg : V i with
  | none => simp [hg] at hc
  | some o =>
  simp only [hg, Option.bind_some] at hc
  obtain ⟨s', c', h1, h3, h2⟩ := block_of hs hg hc
  rw [hi] at h1; cases h1
  simp only [Instr.loadAt, Instr.sureAddr, Sem.run_bind, Sem.run_pure, Result.andThen_ok, loadVar, run_isAgg' hτ ht]
  split at h
  · rename_i ha
    split at h
    · rename_i hlen
      cases h
      rw [if_pos ha]
      have hlc := h3.1
      have hrun := run_loadCells_list (P := P) w ⟨s.blk, s.base + off, none⟩ ((c'.drop off).take ti.size) (fun j v hv => by
        rw [add_none]
        rw [List.getElem?_take] at hv
        split at hv
        · rw [List.getElem?_drop] at hv; rw [Nat.add_assoc]; exact h2 _ _ hv
        · cases hv)
      have hlen' : ((c'.drop off).take ti.size).length = ti.size := by simp only [List.length_take, List.length_drop]; omega
      rw [hlen'] at hrun
      simp only [run_sizeOf' hτ ht, Sem.run_bind, Result.andThen_ok, hrun, Sem.run_pure]
      exact ⟨_, rfl, vrel_agg (lrel_take (lrel_drop h3 off) ti.size)⟩
    · cases h
  · rename_i ha
    rw [if_neg ha]
    obtain ⟨v', hv', hr⟩ := lrel_get h3 h
    refine ⟨v', ?_, hr⟩
    rw [run_load, h2 _ _ hv']

end
end Go.Proofs.YtcjfidfealifhaaGreat.Vm

/- New blocks and written ones over a small heap of names. No program in it. -/
set_option linter.unusedVariables false
set_option linter.unusedSimpArgs false
namespace Go.Proofs.YtcjfidfealifhaaGreat.Vm
open Go

theorem splice_nil (c : List Value) (off : Nat) : splice c off [] = c := by simp [splice]

theorem splice_length (c : List Value) (off : Nat) (vs : List Value) (h : off + vs.length ≤ c.length) : (splice c off vs).length = c.length := by
  simp only [splice, List.length_append, List.length_take, List.length_drop]; omega

theorem splice_cons (c : List Value) (off : Nat) (v : Value) (vs : List Value) (h : off < c.length) : splice c off (v :: vs) = splice (c.set off v) (off + 1) vs := by
  unfold splice
  rw [List.take_set, List.drop_set, if_pos (by omega), List.length_cons]
  have : off + (vs.length + 1) = off + 1 + vs.length := by omega
  rw [this]
  congr 1
  rw [List.append_cons]
  congr 1
  rw [List.take_add_one, List.set_append_right]
  · simp only [List.length_take, Nat.min_eq_left (Nat.le_of_lt h), Nat.sub_self]
    rw [List.getElem?_eq_getElem h]
    rfl
  · simp only [List.length_take]; omega

theorem lrel_splice {ρ : Ren} {c c' vs vs' : List Value} (h : LRel ρ c c') (hv : LRel ρ vs vs') (off : Nat) : LRel ρ (splice c off vs) (splice c' off vs') := by
  unfold splice
  rw [hv.1]
  exact lrel_append (lrel_append (lrel_take h _) hv) (lrel_drop h _)

def notFrozen (fr : Nat × Nat) (off n : Nat) : Prop := ∀ j, off ≤ j → j < off + n → ¬ (fr.1 ≤ j ∧ j < fr.2)

theorem run_storeCells {P : Program} {b off : Nat} {e : TypeId} {fr : Nat × Nat} : ∀ (vs : List Value) (i : Nat) (w : World) (c' : Array Value), w.heap[b]? = some (.cells c' e fr) → off + i + vs.length ≤ c'.size →
    (∀ v ∈ vs, v.oneCell' = true) → notFrozen fr (off + i) vs.length →
    ∃ w', (storeCells ⟨b, off, none⟩ vs i).run P w = .ok () w' ∧ Wrote b w w' ∧ w'.heap[b]? = some (.cells (splice c'.toList (off + i) vs).toArray e fr)
  | [], i, w, c', h, _, _, _ => ⟨w, rfl, .refl _ _, by rw [splice_nil]; exact h⟩
  | v :: vs, i, w, c', h, hl, hv, hf => by
    have hl' : off + i < c'.size := by simp only [List.length_cons] at hl; omega
    have hcell : w.cell? ⟨b, off + i, none⟩ = some c'[off + i] := by rw [cell_of w h]; simp [hl']
    have hfro : w.frozen? ⟨b, off + i, none⟩ = false := by
      have := hf (off + i) (Nat.le_refl _) (by simp)
      simp only [World.frozen?, h, Bool.and_eq_false_imp, decide_eq_true_eq, decide_eq_false_iff_not]
      intro h1 h2; exact this ⟨h1, h2⟩
    let w1 := w.setCell ⟨b, off + i, none⟩ v
    have hb : b < w.heap.size := (Array.getElem?_eq_some_iff.1 h).1
    have hw1 : w1.heap[b]? = some (.cells (c'.setIfInBounds (off + i) v) e fr) := by
      show (w.heap.modify b _)[b]? = _
      rw [Array.getElem?_modify, if_pos rfl, h]; rfl
    have hwr : Wrote b w w1 := ⟨rfl, rfl, rfl, by simp [w1, World.setCell], fun k hk => by
      show (w.heap.modify b _)[k]? = _
      rw [Array.getElem?_modify, if_neg (fun e => hk e.symm)]⟩
    obtain ⟨w2, hr2, hw2, hb2⟩ := run_storeCells (P := P) (off := off) vs (i + 1) w1 _ hw1 (by simp only [List.length_cons] at hl; simp; omega) (fun x hx => hv x (List.mem_cons_of_mem _ hx))
      (fun j h1 h2 => hf j (by omega) (by simp only [List.length_cons]; omega))
    refine ⟨w2, ?_, hwr.trans hw2, ?_⟩
    · simp only [storeCells, Sem.run_bind, add_none, run_store _ _ _ _ _ (hv v List.mem_cons_self), hcell, hfro, Bool.false_eq_true, if_false, Result.andThen_ok]
      exact hr2
    · rw [hb2, splice_cons _ _ _ _ (by simpa using hl')]
      simp [Nat.add_assoc]

end Go.Proofs.YtcjfidfealifhaaGreat.Vm

/- Operations that compute, compare, read, make and write, over a small heap of names. No program in it. -/
set_option linter.unusedVariables false
set_option linter.unusedSimpArgs false
namespace Go.Proofs.YtcjfidfealifhaaGreat.Vm
open Go

/-- Numbers. -/
def evInt (op : BinOp) (k : IntKind) (a b : Int) : Option Value :=
  match op with
  | .add => some (.int k (k.wrap (a + b)))
  | .sub => some (.int k (k.wrap (a - b)))
  | .mul => some (.int k (k.wrap (a * b)))
  | .quo => if b = 0 then none else some (.int k (k.wrap (a.tdiv b)))
  | .rem => if b = 0 then none else some (.int k (a.tmod b))
  | .and => some (.int k (bits .and k a b))
  | .or => some (.int k (bits .or k a b))
  | .xor => some (.int k (bits .xor k a b))
  | .andNot => some (.int k (bits .andNot k a b))
  | .eql => some (.bool (a == b))
  | .neq => some (.bool (a != b))
  | .lss => some (.bool (decide (a < b)))
  | .leq => some (.bool (decide (a ≤ b)))
  | .gtr => some (.bool (decide (b < a)))
  | .geq => some (.bool (decide (b ≤ a)))
  | _ => none

def evStr (op : BinOp) (a b : ByteArray) : Option Value :=
  match op with
  | .add => if a.size + b.size ≤ 4611686018427387904 then some (.string (a ++ b)) else none
  | .eql => some (.bool (a == b))
  | .neq => some (.bool (!(a == b)))
  | .lss => some (.bool (Op.bytesLess a.data.toList b.data.toList))
  | .leq => some (.bool (Op.bytesLess a.data.toList b.data.toList || a == b))
  | .gtr => some (.bool (!(Op.bytesLess a.data.toList b.data.toList || a == b)))
  | .geq => some (.bool (!(Op.bytesLess a.data.toList b.data.toList)))
  | _ => none

def evPart (τ : Nat → Option TI) (t : Nat) (cs : List Value) (off : Nat) : Option Value :=
  match τ t with
  | some ti => if isAggB ti.desc then some (.agg ((cs.drop off).take ti.size).toArray) else cs[off]?
  | none => none

def evEqFields (τ : Nat → Option TI) (eq : Nat → Value → Value → Option Bool) : List Field → List Value → List Value → Option Bool
  | [], _, _ => some true
  | f :: fs, xs, ys =>
    match evPart τ f.type xs f.offset, evPart τ f.type ys f.offset with
    | some a, some b =>
      match eq f.type a b, evEqFields τ eq fs xs ys with
      | some p, some q => if f.name = "_" then none else some (p && q)
      | _, _ => none
    | _, _ => none

def evEq (τ : Nat → Option TI) : Nat → Nat → Value → Value → Option Bool
  | 0, _, _, _ => none
  | d + 1, t, x, y =>
    match τ t with
    | none => none
    | some ti =>
      match ti.desc, x, y with
      | .bool, .bool a, .bool b => some (a == b)
      | .int _, .int k a, .int k' b => if k = k' then some (a == b) else none
      | .string, .string a, .string b => some (a == b)
      | .pointer _, .pointer none, .pointer b => some b.isNone
      | .pointer _, .pointer (some _), .pointer none => some false
      | .interface _, .nilIface, .iface _ _ => some false
      | .interface _, .iface _ _, .nilIface => some false
      | .interface _, .iface tx vx, .iface ty vy =>
        if tx = ty then (match τ tx with
          | some tj => if tj.cmp then evEq τ d tx vx vy else none
          | none => none)
        else some false
      | .map _ _, .map none, .map b => some b.isNone
      | .map _ _, .map (some _), .map none => some false
      | .func _ _ _, .nilFunc, .nilFunc => some true
      | .func _ _ _, .nilFunc, .func _ _ _ => some false
      | .func _ _ _, .func _ _ _, .nilFunc => some false
      | .struct fs, .agg xs, .agg ys => if ti.eqOk then evEqFields τ (evEq τ d) fs.toList xs.toList ys.toList else none
      | _, _, _ => none

/-- The cell ahead: both nil, and neither of them the literal. -/
def bothNil : Value → Value → Bool
  | .nilIface, .nilIface => true
  | _, _ => false

def isIface (τ : Nat → Option TI) (t : Nat) : Bool :=
  match τ t with
  | some ti => (match ti.desc with
    | .interface _ => true
    | _ => false)
  | none => false

def evBin (τ : Nat → Option TI) (op : BinOp) (t : Nat) (lit : Bool) (x y : Value) : Option Value :=
  match op, x, y with
  | .shl, .int k a, .int _ b => if b < 0 then none else some (.int k (k.wrap (a * 2 ^ (min b.toNat k.bits))))
  | .shr, .int k a, .int _ b => if b < 0 then none else some (.int k (a.fdiv (2 ^ (min b.toNat k.bits))))
  | op, .int k a, .int k' b => if k = k' then evInt op k a b else none
  | op, .string a, .string b => evStr op a b
  | .eql, x, y => if bothNil x y then (if lit && isIface τ t then some (.bool true) else none) else (evEq τ 50 t x y).map .bool
  | .neq, x, y => if bothNil x y then (if lit && isIface τ t then some (.bool false) else none) else (evEq τ 50 t x y).map fun b => .bool (!b)
  | _, _, _ => none

def evUn (op : UnOp) (x : Value) : Option Value :=
  match op, x with
  | .neg, .int k n => some (.int k (k.wrap (0 - n)))
  | .not, .bool b => some (.bool (!b))
  | .xor, .int k n => some (.int k (bits .xor k (if k.signed then -1 else k.max) n))
  | _, _ => none

section
variable {P : Program} {τ : Nat → Option TI} {ρ : Ren} {V : Heap} {w : World}

theorem evInt_ok {op : BinOp} {k : IntKind} {a b : Int} {v : Value} (h : evInt op k a b = some v) :
    (match op with
      | .add | .sub | .mul => Op.intArith op k a b
      | .quo | .rem => Op.intDiv op k a b
      | .and | .or | .xor | .andNot => Op.intBits op k a b
      | _ => Op.intCmp op a b).run P w = .ok v w ∧ VRel ρ v v := by
  cases op <;> simp only [evInt, reduceCtorEq] at h
  all_goals first
    | (split at h
       · cases h
       · rename_i hb; cases h; exact ⟨by simp [Op.intDiv, hb], .int _ _⟩)
    | (cases h; exact ⟨by simp [Op.intArith, intBits_and, intBits_or, intBits_xor, intBits_andNot, Op.intCmp, Int.not_lt, Int.not_le], by constructor⟩)

theorem toList_data (a : ByteArray) : a.toList = a.data.toList := ByteArray.toList_eq a

theorem evStr_ok {op : BinOp} {a b : ByteArray} {v : Value} (h : evStr op a b = some v) : (Op.stringOp op a b).run P w = .ok v w ∧ VRel ρ v v := by
  cases op <;> simp only [evStr, reduceCtorEq] at h
  all_goals first
    | (split at h
       · rename_i hs
         cases h
         refine ⟨?_, .string _⟩
         have : ¬ (((a.size + b.size : Nat) : Int) > IntKind.i64.max) := by
           have : IntKind.i64.max = 9223372036854775807 := by decide
           omega
         simp only [Op.stringOp, if_neg this, Sem.run_pure]
       · cases h)
    | (cases h; exact ⟨by simp [Op.stringOp, beq_toListBytes, toList_data], by constructor⟩)

theorem evPart_ok (hτ : TyOk P τ) {t : Nat} {cs cs' : List Value} {off : Nat} {v : Value} (hc : LRel ρ cs cs') (h : evPart τ t cs off = some v) :
    ∃ v', (part t cs'.toArray off).run P w = .ok v' w ∧ VRel ρ v v' := by
  unfold evPart at h
  split at h
  case h_2 => cases h
  rename_i ti ht
  simp only [part, Sem.run_bind, run_isAgg' hτ ht, Result.andThen_ok]
  split at h
  · rename_i ha
    cases h
    rw [if_pos ha]
    refine ⟨.agg ((cs'.drop off).take ti.size).toArray, ?_, vrel_agg (lrel_take (lrel_drop hc off) _)⟩
    simp only [run_sizeOf' hτ ht, Sem.run_bind, Result.andThen_ok, Sem.run_pure]
    congr 2
    simp [List.extract_eq_take_drop]
  · rename_i ha
    rw [if_neg ha]
    obtain ⟨v', hv, hr⟩ := lrel_get hc h
    exact ⟨v', by simp [hv], hr⟩

theorem run_eqFields {eq : Nat → Value → Value → Option Bool} {d : Nat} (hτ : TyOk P τ)
    (ih : ∀ t x y x' y' b, VRel ρ x x' → VRel ρ y y' → eq t x y = some b → (Op.equalIn d t x' y').run P w = .ok b w) :
    ∀ (fs : List Field) (xs xs' ys ys' : List Value) (b : Bool), LRel ρ xs xs' → LRel ρ ys ys' → evEqFields τ eq fs xs ys = some b →
      (Op.eqFields d xs'.toArray ys'.toArray fs).run P w = .ok b w
  | [], xs, xs', ys, ys', b, _, _, h => by cases h; rfl
  | f :: fs, xs, xs', ys, ys', b, hx, hy, h => by
    simp only [evEqFields] at h
    split at h
    case h_2 => cases h
    rename_i a c h1 h2
    split at h
    case h_2 => cases h
    rename_i p q h3 h4
    split at h
    case isTrue => cases h
    rename_i hn
    cases h
    obtain ⟨a', ha, hra⟩ := evPart_ok (w := w) hτ hx h1
    obtain ⟨c', hc, hrc⟩ := evPart_ok (w := w) hτ hy h2
    simp only [Op.eqFields, ne_eq, hn, not_false_eq_true, if_true, Sem.run_bind, ha, hc, Result.andThen_ok, ih _ _ _ _ _ _ hra hrc h3]
    have := run_eqFields hτ ih fs xs xs' ys ys' q hx hy h4
    cases p
    · simp
    · simpa using this

set_option maxHeartbeats 4000000 in
theorem evEq_ok (hτ : TyOk P τ) : ∀ (e d t : Nat) (x y x' y' : Value) (b : Bool), VRel ρ x x' → VRel ρ y y' → evEq τ e t x y = some b →
    (Op.equalIn (d + e) t x' y').run P w = .ok b w
  | 0, d, t, x, y, x', y', b, _, _, h => by cases h
  | e + 1, d, t, x, y, x', y', b, hx, hy, h => by
    simp only [evEq] at h
    split at h
    case h_1 => cases h
    rename_i ti ht
    have hu := run_underlying' hτ ht w
    rw [show d + (e + 1) = (d + e) + 1 from rfl]
    split at h
    · rename_i h1; cases hx; cases hy; cases h; simp [Op.equalIn, hu, h1]
    · rename_i h1; cases hx; cases hy
      split at h
      · rename_i hk; subst hk; cases h; simp [Op.equalIn, hu, h1]
      · cases h
    · rename_i h1; cases hx; cases hy; cases h; simp [Op.equalIn, hu, h1]
    · rename_i h1; cases hx; cases hy <;> (cases h; simp [Op.equalIn, hu, h1])
    · rename_i h1; cases hx; cases hy; cases h; simp [Op.equalIn, hu, h1]
    · rename_i h1; cases hx; cases hy; cases h; simp [Op.equalIn, hu, h1]
    · rename_i h1; cases hx; cases hy; cases h; simp [Op.equalIn, hu, h1]
    · rename_i h1
      cases hx with | iface tx hvx => cases hy with | iface ty hvy =>
      split at h
      · rename_i htt; subst htt
        split at h
        · rename_i tj htj
          split at h
          · rename_i hcmp
            obtain ⟨f, hf, _⟩ := run_typeInfo' hτ htj w
            have hfc := hτ.cmp _ _ htj hcmp
            obtain ⟨f', hf', hc'⟩ := hfc
            have : f = f' := by
              have h2 := hf
              simp only [typeInfo, Sem.run_bind, run_program, Result.andThen_ok, hf', Sem.run_pure, Result.ok.injEq, and_true] at h2
              exact h2.symm
            subst this
            simp [Op.equalIn, hu, h1, hf, hc', evEq_ok hτ e d _ _ _ _ _ b hvx hvy h]
          · cases h
        · cases h
      · rename_i htt; cases h; simp [Op.equalIn, hu, h1, htt]
    · rename_i h1; cases hx; cases hy <;> (cases h; simp [Op.equalIn, hu, h1])
    · rename_i h1; cases hx; cases hy; cases h; simp [Op.equalIn, hu, h1]
    · rename_i h1; cases hx; cases hy; cases h; simp [Op.equalIn, hu, h1]
    · rename_i h1; cases hx; cases hy; cases h; simp [Op.equalIn, hu, h1]
    · rename_i h1; cases hx; cases hy; cases h; simp [Op.equalIn, hu, h1]
    · rename_i h1
      split at h
      · rename_i hok
        obtain ⟨xs', rfl, hxs⟩ := vrel_agg_inv hx
        obtain ⟨ys', rfl, hys⟩ := vrel_agg_inv hy
        have hun := hτ.under t ti ht
        rw [h1] at hun
        have hfs : P.underlying t = some (.struct (P.fieldsOf t)) := by simp only [Program.fieldsOf, hun]
        have hfe := Option.some.inj (hfs.symm.trans hun)
        rw [run_equalIn_struct w (d + e) t xs' ys' hfs (hτ.eqOk t ti ht hok).1, TypeDesc.struct.inj hfe]
        have := run_eqFields (w := w) (d := d + e) hτ (fun t x y x' y' b h1 h2 h3 => evEq_ok hτ e d t x y x' y' b h1 h2 h3) _ _ _ _ _ b hxs hys h
        simpa using this
      · cases h
    · cases h

end
end Go.Proofs.YtcjfidfealifhaaGreat.Vm

/- Each operation as a function on a small heap of names; it is what the run does. No program in it. -/
set_option linter.unusedVariables false
set_option linter.unusedSimpArgs false
namespace Go.Proofs.YtcjfidfealifhaaGreat.Vm
open Go

/-- What comes of an operation: its value; what it turned; how many names are new; the names that it looked at. -/
structure Res where
  v : Value
  L : List (Nat × Option VObj)
  k : Nat
  reads : List Nat

def rv (v : Value) : Res := ⟨v, [], 0, []⟩

/-- The run does as was told. -/
def OpOk (P : Program) (x : Sem Next) (ρ : Ren) (V : Heap) (w : World) (n : Nat) (r : Res) : Prop :=
  ∃ v' w' ρ', (x.run P w = .ok (.value v') w' ∨ (x.run P w = .ok .skip w' ∧ v' = undef)) ∧ VRel ρ' r.v v' ∧ Sim ρ' (over V r.L) w' ∧ Keep ρ V w ρ' (over V r.L) w' ∧
    ∀ i, ¬ (n ≤ i ∧ i < n + r.k) → ρ' i = ρ i

def ValOk (P : Program) (x : Sem Value) (ρ : Ren) (V : Heap) (w : World) (n : Nat) (r : Res) : Prop :=
  ∃ v' w' ρ', x.run P w = .ok v' w' ∧ VRel ρ' r.v v' ∧ Sim ρ' (over V r.L) w' ∧ Keep ρ V w ρ' (over V r.L) w' ∧ ∀ i, ¬ (n ≤ i ∧ i < n + r.k) → ρ' i = ρ i

section
variable {P : Program} {τ : Nat → Option TI} {ρ : Ren} {V : Heap} {w : World} {n : Nat}

theorem ValOk.op {x : Sem Value} {r : Res} (h : ValOk P x ρ V w n r) : OpOk P (do pure (.value (← x))) ρ V w n r := by
  obtain ⟨v', w', ρ', h1, r⟩ := h
  exact ⟨v', w', ρ', .inl (by simp [h1]), r⟩

/-- An operation that only reads. -/
theorem ValOk.quiet {x : Sem Value} {v v' : Value} {reads : List Nat} (hs : Sim ρ V w) (h : x.run P w = .ok v' w) (hv : VRel ρ v v') : ValOk P x ρ V w n ⟨v, [], 0, reads⟩ :=
  ⟨v', w, ρ, h, hv, hs, .refl _ _ _, fun _ _ => rfl⟩

theorem OpOk.quiet {x : Sem Next} {v v' : Value} {reads : List Nat} (hs : Sim ρ V w) (h : x.run P w = .ok (.value v') w) (hv : VRel ρ v v') : OpOk P x ρ V w n ⟨v, [], 0, reads⟩ :=
  ⟨v', w, ρ, .inl h, hv, hs, .refl _ _ _, fun _ _ => rfl⟩

/-- A new block. -/
theorem ValOk.new {x : Sem Value} {o : VObj} {o' : Obj} {cap : Option (Nat × Nat)} {w' : World} {v v' : Value} (hs : Sim ρ V w) (hn : ρ n = none) (hc : (⟨w.heap.size, cap, 0⟩ : Slot).gone = false) (hw : Grew o' w w')
    (h : x.run P w = .ok v' w') (hr : ORel (extR ρ n ⟨w.heap.size, cap, 0⟩) ⟨w.heap.size, cap, 0⟩ o o') (hv : VRel (extR ρ n ⟨w.heap.size, cap, 0⟩) v v') :
    ValOk P x ρ V w n ⟨v, [(n, some o)], 1, []⟩ := by
  obtain ⟨h1, h2⟩ := sim_new hs hn hc hw hr
  refine ⟨v', w', _, h, hv, ?_, ?_, ?_⟩
  · rw [over_cons, over_nil]; exact h1
  · rw [over_cons, over_nil]; exact h2
  · intro i hi
    simp only [extR]
    rw [if_neg (by simp only at hi; omega)]

/-- A new name of nothing. -/
theorem ValOk.void {x : Sem Value} {o : VObj} {v v' : Value} {rs : List Nat} (hs : Sim ρ V w) (hn : ρ n = none) (ho : o.void = true) (h : x.run P w = .ok v' w) (hv : VRel (extR ρ n nowhere) v v') : ValOk P x ρ V w n ⟨v, [(n, some o)], 1, rs⟩ := by
  obtain ⟨h1, h2⟩ := sim_void hs hn ho
  refine ⟨v', w, _, h, hv, ?_, ?_, ?_⟩
  · rw [over_cons, over_nil]; exact h1
  · rw [over_cons, over_nil]; exact h2
  · intro i hi
    simp only [extR]
    rw [if_neg (by simp only at hi; omega)]

theorem extR_self (ρ : Ren) (i : Nat) (s : Slot) : extR ρ i s i = some s := by simp [extR]

theorem newVar_ok (hs : Sim ρ V w) (hn : ρ n = none) (t : TypeId) {v v' : Value} (hv : VRel ρ v v') :
    ValOk P (do pure (.pointer (some (← newVar t v')))) ρ V w n ⟨.pointer (some ⟨n, 0, none⟩), [(n, some (.cells v.cells.toList t (0, 0)))], 1, []⟩ := by
  refine ValOk.new (o' := .cells v'.cells t (0, 0)) (cap := none) (w' := { w with heap := w.heap.push (.cells v'.cells t) }) (v' := .pointer (some ⟨w.heap.size, 0, none⟩)) hs hn rfl ⟨rfl, rfl, rfl, rfl⟩ (by simp [newVar, newRow]) (.cells t (0, 0) rfl rfl ((vrel_cells hv).mono (Ext.extR hn _))) ?_
  exact .ptr (extR_self _ _ _)

/-- Parts, filled in. -/
def evFill (place : Nat → Option (Nat × Nat)) : List (Nat × Option Value) → List Value → Option (List Value)
  | [], c => some c
  | (i, x) :: r, c =>
    match place i, x with
    | some (off, size), some v => if v.cells.size = size ∧ off + size ≤ c.length then evFill place r (splice c off v.cells.toList) else none
    | _, _ => none

theorem setAll_splice : ∀ (vs : List Value) (c : Array Value) (off : Nat), off + vs.length ≤ c.size →
    (vs.toArray.zipIdx.foldl (fun cs (x : Value × Nat) => cs.setIfInBounds (off + x.2) x.1) c).toList = splice c.toList off vs := by
  have key : ∀ (vs : List Value) (c : Array Value) (off j : Nat), off + j + vs.length ≤ c.size →
      ((vs.zipIdx j).foldl (fun cs (x : Value × Nat) => cs.setIfInBounds (off + x.2) x.1) c).toList = splice c.toList (off + j) vs := by
    intro vs
    induction vs with
    | nil => intro c off j _; simp [splice_nil]
    | cons v vs ih =>
      intro c off j h
      simp only [List.length_cons] at h
      simp only [List.zipIdx_cons, List.foldl_cons]
      rw [ih _ _ (j + 1) (by simp; omega), splice_cons _ _ _ _ (by simp; omega)]
      simp [Nat.add_assoc]
  intro vs c off h
  have := key vs c off 0 (by omega)
  simpa [← Array.foldl_toList] using this

theorem fill_ok {place : Nat → Option (Nat × Nat)} : ∀ (ps : List (Nat × Option Value)) (ps' : List (Nat × Value)) (c : List Value) (c' : Array Value) (out : List Value),
    ps.length = ps'.length → (∀ (i : Nat) p q, ps[i]? = some p → ps'[i]? = some q → p.1 = q.1 ∧ ∀ v, p.2 = some v → VRel ρ v q.2) → LRel ρ c c'.toList → evFill place ps c = some out →
    ∃ out', Instr.fill place c' ps' = some out' ∧ LRel ρ out out'.toList
  | [], [], c, c', out, _, _, hc, h => by cases h; exact ⟨c', rfl, hc⟩
  | [], _ :: _, _, _, _, hl, _, _, _ => by simp at hl
  | _ :: _, [], _, _, _, hl, _, _, _ => by simp at hl
  | (i, x) :: ps, (j, y) :: ps', c, c', out, hl, hp, hc, h => by
    obtain ⟨he, hv⟩ := hp 0 _ _ rfl rfl
    simp only at he; subst he
    simp only [evFill] at h
    split at h
    case h_2 => cases h
    rename_i _ _ off size v hpl
    split at h
    case isFalse => cases h
    rename_i hsz
    have hvr := hv v rfl
    have hcl := vrel_cells hvr
    have hs1 : y.cells.size = size := by have := hcl.1; simp only [Array.length_toList] at this; omega
    have hs2 : c.length = c'.size := by have := hc.1; simpa using this
    have hfold := setAll_splice y.cells.toList c' off (by simp; omega)
    simp only [Array.toArray_toList] at hfold
    have := fill_ok (place := place) ps ps' (splice c off v.cells.toList) (y.cells.zipIdx.foldl (fun cs (x : Value × Nat) => cs.setIfInBounds (off + x.2) x.1) c') out (by simpa using hl)
      (fun i p q h1 h2 => hp (i + 1) p q (by simpa using h1) (by simpa using h2)) (by rw [hfold]; exact lrel_splice hc hcl off) h
    obtain ⟨out', ho, hr⟩ := this
    refine ⟨out', ?_, hr⟩
    simp only [Instr.fill, hpl]
    rw [if_neg (by simp [hs1]; omega)]
    exact ho

/-- The fields' places. -/
def evPlaces (τ : Nat → Option TI) : List Field → Option (List (Nat × Nat))
  | [] => some []
  | f :: fs => match τ f.type, evPlaces τ fs with
    | some ti, some r => some ((f.offset, ti.size) :: r)
    | _, _ => none

theorem evPlaces_ok (hτ : TyOk P τ) (w : World) : ∀ (fs : List Field) (ps : List (Nat × Nat)), evPlaces τ fs = some ps →
    (fs.mapM (fun f => do pure (f.offset, ← sizeOf f.type) : Field → Sem (Nat × Nat))).run P w = .ok ps w
  | [], ps, h => by cases h; simp
  | f :: fs, ps, h => by
    simp only [evPlaces] at h
    split at h
    case h_2 => cases h
    rename_i ti r h1 h2
    cases h
    have := evPlaces_ok hτ w fs r h2
    simp only [List.mapM_cons, Sem.run_bind, run_sizeOf' hτ h1, Result.andThen_ok, Sem.run_pure, this]

def evBuild (τ : Nat → Option TI) (t : Nat) (ps : List (Nat × Option Value)) : Option Value :=
  match τ t with
  | none => none
  | some ti =>
    match ti.desc with
    | .struct fs => match evPlaces τ fs.toList with
      | some pl => (evFill (pl[·]?) ps ti.zero.cells.toList).map fun c => .agg c.toArray
      | none => none
    | .array _ e => match τ e with
      | some te => (evFill (fun i => some (i * te.size, te.size)) ps ti.zero.cells.toList).map fun c => .agg c.toArray
      | none => none
    | _ => none

theorem evBuild_ok (hτ : TyOk P τ) {t : Nat} {ps : List (Nat × Option Value)} {ps' : List (Nat × Value)} {v : Value} (hl : ps.length = ps'.length)
    (hp : ∀ (i : Nat) p q, ps[i]? = some p → ps'[i]? = some q → p.1 = q.1 ∧ ∀ v, p.2 = some v → VRel ρ v q.2) (h : evBuild τ t ps = some v) :
    ∃ v', (Instr.build t ps'.toArray).run P w = .ok v' w ∧ VRel ρ v v' := by
  unfold evBuild at h
  split at h
  case h_1 => cases h
  rename_i ti ht
  have hz := vrel_cells (hτ.zero t ti ht ρ)
  split at h
  · rename_i fs hd
    split at h
    case h_2 => cases h
    rename_i pl hpl
    simp only [Option.map_eq_some_iff] at h
    obtain ⟨c, hc, rfl⟩ := h
    obtain ⟨out', ho, hr⟩ := fill_ok ps ps' ti.zero.cells.toList ti.zero.cells c hl hp hz hc
    refine ⟨.agg out', ?_, by simpa using vrel_agg hr⟩
    have hmap : (fs.mapM (fun f => do pure (f.offset, ← sizeOf f.type) : Field → Sem (Nat × Nat))).run P w = .ok pl.toArray w := by
      rw [Array.mapM_eq_mapM_toList, Sem.run_map, evPlaces_ok hτ w fs.toList pl hpl]; rfl
    simp only [Instr.build, Sem.run_bind, run_zeroValue' hτ ht, run_underlying' hτ ht, Result.andThen_ok, hd, hmap]
    have : (fun (x : Nat) => pl.toArray[x]?) = (fun (x : Nat) => pl[x]?) := by funext x; simp
    simp only [this, ho, Sem.run_pure]
  · rename_i k e hd
    split at h
    case h_2 => cases h
    rename_i te hte
    simp only [Option.map_eq_some_iff] at h
    obtain ⟨c, hc, rfl⟩ := h
    obtain ⟨out', ho, hr⟩ := fill_ok ps ps' ti.zero.cells.toList ti.zero.cells c hl hp hz hc
    refine ⟨.agg out', ?_, by simpa using vrel_agg hr⟩
    simp only [Instr.build, Sem.run_bind, run_zeroValue' hτ ht, run_underlying' hτ ht, Result.andThen_ok, hd, run_sizeOf' hτ hte, ho, Sem.run_pure]
  · cases h

/-- So many zeros. -/
def zeros (z : List Value) : Nat → List Value
  | 0 => []
  | n + 1 => z ++ zeros z n

theorem zeros_length (z : List Value) (n : Nat) : (zeros z n).length = n * z.length := by
  induction n with
  | zero => simp [zeros]
  | succ n ih => simp [zeros, ih, Nat.succ_mul, Nat.add_comm]

theorem zeros_get (z : List Value) : ∀ (n i : Nat), i < n * z.length → (zeros z n)[i]? = z[i % z.length]?
  | 0, i, h => by omega
  | n + 1, i, h => by
    simp only [zeros]
    by_cases hi : i < z.length
    · rw [List.getElem?_append_left hi, Nat.mod_eq_of_lt hi]
    · have hm : i % z.length = (i - z.length) % z.length := Nat.mod_eq_sub_mod (by omega)
      rw [List.getElem?_append_right (by omega), zeros_get z n (i - z.length) (by rw [Nat.add_mul] at h; omega), hm]

theorem zeros_range (z : Array Value) (n : Nat) : ((Array.range (n * z.size)).map (z[· % z.size]!)) = (zeros z.toList n).toArray := by
  apply Array.ext'
  apply List.ext_getElem?
  intro i
  by_cases hi : i < n * z.size
  · have hz : 0 < z.size := Nat.pos_of_ne_zero (fun e => by simp [e] at hi)
    have hm : i % z.size < z.size := Nat.mod_lt _ hz
    have := zeros_get z.toList n i (by simpa using hi)
    simp only [Array.length_toList] at this
    simp only [Array.toList_map, Array.toList_range, List.getElem?_map, List.getElem?_range hi, Option.map_some, this]
    simp [hm]
  · rw [List.getElem?_eq_none (by simp; omega), List.getElem?_eq_none (by simp [zeros_length]; omega)]

theorem lrel_zeros {z z' : List Value} (h : LRel ρ z z') : ∀ n, LRel ρ (zeros z n) (zeros z' n)
  | 0 => lrel_nil
  | n + 1 => lrel_append h (lrel_zeros h n)

def evBuildSlice (τ : Nat → Option TI) (n t len : Nat) (ps : List (Nat × Option Value)) : Option Res :=
  match τ t with
  | none => none
  | some ti =>
    match ti.desc with
    | .slice e => match τ e with
      | some te =>
        if len * te.size ≤ 16777216 ∧ 0 < te.size then
          (evFill (fun i => some (i * te.size, te.size)) ps (zeros te.zero.cells.toList len)).map fun c => ⟨.slice (some ⟨n, 0, none⟩) len 0, [(n, some (.opn c e te.size))], 1, []⟩
        else none
      | none => none
    | _ => none

theorem evFill_length {place : Nat → Option (Nat × Nat)} : ∀ (ps : List (Nat × Option Value)) (c out : List Value), evFill place ps c = some out → out.length = c.length
  | [], c, out, h => by cases h; rfl
  | (i, x) :: ps, c, out, h => by
    simp only [evFill] at h
    split at h
    · rename_i off size v h1
      split at h
      · rename_i hc
        rw [evFill_length ps _ _ h, splice_length _ _ _ (by simp; omega)]
      · cases h
    · cases h

theorem evBuildSlice_ok (hτ : TyOk P τ) (hzs : ∀ t ti, τ t = some ti → ti.zero.cells.size = ti.size) (hs : Sim ρ V w) (hn : ρ n = none) {t len : Nat} {ps : List (Nat × Option Value)} {ps' : List (Nat × Value)} {r : Res}
    (hl : ps.length = ps'.length) (hp : ∀ (i : Nat) p q, ps[i]? = some p → ps'[i]? = some q → p.1 = q.1 ∧ ∀ v, p.2 = some v → VRel ρ v q.2) (h : evBuildSlice τ n t len ps = some r) :
    ValOk P (Instr.buildSlice t len ps'.toArray) ρ V w n r := by
  unfold evBuildSlice at h
  split at h
  case h_1 => cases h
  rename_i ti ht
  split at h
  case h_2 => cases h
  rename_i e hd
  split at h
  case h_2 => cases h
  rename_i te hte
  split at h
  case isFalse => cases h
  rename_i hbig
  obtain ⟨hbig, hpos⟩ := hbig
  simp only [Option.map_eq_some_iff] at h
  obtain ⟨c, hc, rfl⟩ := h
  have hz := vrel_cells (hτ.zero e te hte ρ)
  have hsz := hzs e te hte
  obtain ⟨out', ho, hr⟩ := fill_ok ps ps' (zeros te.zero.cells.toList len) (zeros te.zero.cells.toList len).toArray c hl hp (by simpa using lrel_zeros hz len) hc
  have hlen : out'.size = len * te.size := by
    have h1 := hr.1
    rw [evFill_length _ _ _ hc, zeros_length] at h1
    simp only [Array.length_toList, hsz] at h1
    exact h1.symm
  refine ValOk.new (o' := .cells out' e (0, 0)) (cap := some (len, te.size)) (w' := { w with heap := w.heap.push (.cells out' e) }) (v' := .slice (some ⟨w.heap.size, 0, none⟩) len len) hs hn (gone_pos rfl hpos) ⟨rfl, rfl, rfl, rfl⟩ ?_
    (.opn (c1 := out'.toList) (c2 := []) (k := len) e rfl rfl (hr.mono (Ext.extR hn _)) (by simp) hlen hpos (0, 0) (.inr ⟨rfl, by have := Nat.le_mul_of_pos_right len hpos; omega⟩))
    (by simpa using VRel.oslice (ρ := extR ρ n ⟨w.heap.size, some (len, te.size), 0⟩) (i := n) (off := 0) (n := len) (e := 0) (k := len) (sz := te.size) (s := ⟨w.heap.size, some (len, te.size), 0⟩) (extR_self _ _ _) rfl hpos (by simp) (by omega))
  have hzr := zeros_range te.zero.cells len
  rw [hsz] at hzr
  simp only [Instr.buildSlice, Sem.run_bind, run_underlying' hτ ht, Result.andThen_ok, hd, run_sizeOf' hτ hte]
  rw [if_neg (by omega)]
  by_cases h0 : len * te.size = 0
  · simp only [h0, Sem.run_bind, if_true, Sem.run_pure, Result.andThen_ok]
    have hnil : (zeros te.zero.cells.toList len).toArray = #[] := by
      have := zeros_length te.zero.cells.toList len
      simp only [Array.length_toList, hsz, h0] at this
      simp [List.length_eq_zero_iff.1 this]
    rw [hnil] at ho
    have h00 : Array.range 0 = #[] := rfl
    simp [h00, ho, newRow]
  · simp only [if_neg h0, Sem.run_bind, run_zeroValue' hτ hte, Sem.run_pure, Result.andThen_ok, hsz, hzr, ho]
    simp [newRow]

end
end Go.Proofs.YtcjfidfealifhaaGreat.Vm

/- Operations that write, slice, index, convert, over a small heap of names. No program in it. -/
set_option linter.unusedVariables false
set_option linter.unusedSimpArgs false
namespace Go.Proofs.YtcjfidfealifhaaGreat.Vm
open Go

def setCells (c : List Value) (off : Nat) : List Value → List Value
  | [v] => c.set off v
  | vs => splice c off vs

theorem setCells_eq (c : List Value) (off : Nat) (vs : List Value) (h : off + vs.length ≤ c.length) : setCells c off vs = splice c off vs := by
  match vs with
  | [] => rfl
  | [v] =>
    simp only [setCells]
    rw [splice_cons _ _ _ _ (by simp at h; omega), splice_nil]
  | _ :: _ :: _ => rfl

def evStore (τ : Nat → Option TI) (V : Heap) (t : Nat) (x v : Value) : Option Res :=
  match x with
  | .pointer (some ⟨i, off, none⟩) =>
    match τ t with
    | none => none
    | some ti =>
      match V i with
      | some (.cells c e fr) =>
        if v.cells.size = ti.size ∧ off + ti.size ≤ c.length ∧ v.cells.toList.all Value.oneCell' = true ∧ (fr.2 ≤ off ∨ off + ti.size ≤ fr.1) then
          some ⟨undef, [(i, some (.cells (setCells c off v.cells.toList) e fr))], 0, [i]⟩ else none
      | some (.opn c e sz) =>
        if v.cells.size = ti.size ∧ off + ti.size ≤ c.length ∧ v.cells.toList.all Value.oneCell' = true then
          some ⟨undef, [(i, some (.opn (setCells c off v.cells.toList) e sz))], 0, [i]⟩ else none
      | _ => none
  | _ => none

theorem vrel_one {ρ : Ren} {v v' : Value} (h : VRel ρ v v') : v'.oneCell' = v.oneCell' := by cases h <;> rfl

theorem lrel_one {ρ : Ren} {c c' : List Value} (h : LRel ρ c c') (ha : c.all Value.oneCell' = true) : ∀ v ∈ c', v.oneCell' = true := by
  intro v hv
  obtain ⟨i, hi, rfl⟩ := List.getElem_of_mem hv
  have hi' : i < c.length := h.1 ▸ hi
  rw [vrel_one (h.2 i c[i] c'[i] (by simp) (by simp))]
  exact List.all_eq_true.1 ha _ (List.getElem_mem hi')

section
variable {P : Program} {τ : Nat → Option TI} {ρ : Ren} {V : Heap} {w : World} {n : Nat}

theorem evStore_ok (hτ : TyOk P τ) (hs : Sim ρ V w) {t : Nat} {x x' v v' : Value} {r : Res} (hx : VRel ρ x x') (hv : VRel ρ v v') (h : evStore τ V t x v = some r) :
    OpOk P (do Instr.storeAt t x' v'; pure .skip) ρ V w n r := by
  unfold evStore at h
  split at h
  case h_2 => cases h
  rename_i i off
  split at h
  case h_1 => cases h
  rename_i ti ht
  cases hx with
  | ptr hi hgo =>
  rename_i s
  have hcl := vrel_cells hv
  have hcs : v'.cells.size = v.cells.size := by have := hcl.1; simpa using this.symm
  have main : ∀ (c : List Value) (c' : Array Value) (e : TypeId) (fr : Nat × Nat) (o o1 : VObj), V i = some o → o.fixed = false → o1.fixed = false → s.base = 0 → w.heap[s.blk]? = some (.cells c' e fr) → c.length ≤ c'.size →
      v.cells.size = ti.size → off + ti.size ≤ c.length → v.cells.toList.all Value.oneCell' = true → notFrozen fr off ti.size →
      ORel ρ s o1 (.cells (splice c'.toList off v'.cells.toList).toArray e fr) →
      OpOk P (do Instr.storeAt t (.pointer (some ⟨s.blk, s.base + off, none⟩)) v'; pure .skip) ρ V w n ⟨undef, [(i, some o1)], 0, [i]⟩ := by
    intro c c' e fr o o1 hVi hof ho1f hbase hw hlc hsz hoff hone hfr hor
    rw [hbase, Nat.zero_add]
    obtain ⟨w', hrun, hwr, hw'⟩ := run_storeCells (P := P) (off := off) (fr := fr) v'.cells.toList 0 w c' hw (by simp [hcs, hsz]; omega) (lrel_one hcl hone) (by simpa [hcs, hsz] using hfr)
    obtain ⟨h1, h2⟩ := sim_put hs hVi hof ho1f hi hgo hwr hw' (by simpa using hor)
    refine ⟨undef, w', ρ, .inr ⟨?_, rfl⟩, vrel_tuple lrel_nil, ?_, ?_, fun _ _ => rfl⟩
    · simp only [Instr.storeAt, Instr.sureAddr, storeVar, Sem.run_bind, Sem.run_pure, Result.andThen_ok, run_sizeOf' hτ ht, hcs, hsz]
      simp [hrun]
    · simpa only [over_cons, over_nil] using h1
    · simpa only [over_cons, over_nil] using h2
  split at h
  · rename_i c e fr hVi
    split at h
    case isFalse => cases h
    rename_i hc
    cases h
    obtain ⟨o', h2, h3⟩ := hs.at_ hVi hi hgo
    cases h3 with
    | cells _ _ hcap hbase hl =>
    rename_i c'
    have hlen : c.length = c'.size := by simpa using hl.1
    refine main c c' e fr _ _ hVi rfl rfl hbase h2 (by omega) hc.1 hc.2.1 hc.2.2.1 (fun j a b => by rcases hc.2.2.2 with q | q <;> omega) ?_
    rw [setCells_eq _ _ _ (by simp; omega)]
    exact .cells e fr hcap hbase (by simpa using lrel_splice hl hcl off)
  · rename_i c e sz hVi
    split at h
    case isFalse => cases h
    rename_i hc
    cases h
    obtain ⟨o', h2, h3⟩ := hs.at_ hVi hi hgo
    cases h3 with
    | opn _ hcap hbase hl hcc hk hz fr hf =>
    rename_i c1 c2 c' k
    have hlen : c'.size = c1.length + c2.length := by have := congrArg List.length hcc; simpa using this
    have hl1 := hl.1
    refine main c c' e fr _ _ hVi rfl rfl hbase h2 (by omega) hc.1 hc.2.1 hc.2.2 (fun j a b => by rcases hf with q | q <;> omega) ?_
    rw [setCells_eq _ _ _ (by simp; omega)]
    refine .opn (c1 := splice c1 off v'.cells.toList) (c2 := c2) (k := k) e hcap hbase (lrel_splice hl hcl off) ?_ ?_ hz fr ?_
    · show splice c'.toList off v'.cells.toList = _
      rw [hcc]
      unfold splice
      rw [List.take_append_of_le_length (by omega), List.drop_append_of_le_length (by simp [hcs]; omega)]
      simp
    · rw [List.size_toArray, splice_length _ _ _ (by simp [hcs]; omega)]; simpa using hk
    · rw [List.size_toArray, splice_length _ _ _ (by simp [hcs]; omega)]; simpa using hf
  · cases h

/-- A slice's bound. -/
def bnd (d : Nat) : Option (Option Value) → Option Nat
  | none => some d
  | some (some (.int _ i)) => if 0 ≤ i then some i.toNat else none
  | _ => none

def evSlice (τ : Nat → Option TI) (V : Heap) (t : Nat) (x : Value) (lo hi : Option (Option Value)) : Option Res :=
  match τ t with
  | none => none
  | some ti =>
    match ti.desc, x with
    | .string, .string s =>
      match bnd 0 lo, bnd s.size hi with
      | some l, some h => if l ≤ h ∧ h ≤ s.size then some (rv (.string (s.extract l h))) else none
      | _, _ => none
    | .slice e, .slice none 0 0 =>
      match bnd 0 lo, bnd 0 hi, τ e with
      | some l, some h, some _ => if l = 0 ∧ h = 0 then some (rv (.slice none 0 0)) else none
      | _, _, _ => none
    | .slice e, .slice (some ⟨i, off, none⟩) len cap =>
      match bnd 0 lo, bnd len hi, τ e, V i with
      | some l, some h, some te, some (.cells _ _ _) =>
        if l ≤ h ∧ h ≤ cap then some ⟨.slice (some (if cap = l then ⟨i, off, none⟩ else ⟨i, off + l * te.size, none⟩)) (h - l) (cap - l), [], 0, [i]⟩ else none
      | some l, some h, some te, some (.ro _) =>
        if l ≤ h ∧ h ≤ cap then some ⟨.slice (some (if cap = l then ⟨i, off, none⟩ else ⟨i, off + l * te.size, none⟩)) (h - l) (cap - l), [], 0, [i]⟩ else none
      | some l, some h, some te, some (.win _ sz) =>
        if l ≤ h ∧ h ≤ len ∧ te.size = sz ∧ cap = 0 ∧ (l < h ∨ l = 0) then some ⟨.slice (some ⟨i, off + l * te.size, none⟩) (h - l) 0, [], 0, [i]⟩ else none
      | some l, some h, some te, some (.opn c _ sz) =>
        if l ≤ h ∧ off + h * te.size ≤ c.length ∧ te.size = sz ∧ 0 < sz ∧ (l < h ∨ l = 0) then some ⟨.slice (some ⟨i, off + l * te.size, none⟩) (h - l) 0, [], 0, [i]⟩ else none
      | _, _, _, _ => none
    | .array m e, .pointer (some ⟨i, off, none⟩) =>
      match bnd 0 lo, bnd m hi, τ e, V i with
      | some l, some h, some te, some (.cells _ _ _) =>
        if l ≤ h ∧ h ≤ m then some ⟨.slice (some (if m = l then ⟨i, off, none⟩ else ⟨i, off + l * te.size, none⟩)) (h - l) (m - l), [], 0, [i]⟩ else none
      | _, _, _, _ => none
    | _, _ => none

theorem bound_ok {d : Nat} {x : Option (Option Value)} {x' : Option Value} {l : Nat} {code : BoundsCode} (hx : ∀ o, x = some o → ∃ y, x' = some y ∧ ∀ v, o = some v → VRel ρ v y) (hn : x = none → x' = none)
    (h : bnd d x = some l) : (x' = none ∧ l = d) ∨ ∃ y, x' = some y ∧ ∀ (m : Nat), l ≤ m → (Instr.sliceBound y m code).run P w = .ok l w := by
  cases x with
  | none => cases h; exact .inl ⟨hn rfl, rfl⟩
  | some o =>
    obtain ⟨y, rfl, hv⟩ := hx o rfl
    refine .inr ⟨y, rfl, fun m hm => ?_⟩
    unfold bnd at h
    split at h
    case h_1 => rename_i he; cases he
    case h_3 => cases h
    rename_i k i he
    cases he
    split at h
    case isFalse => cases h
    rename_i h0
    cases h
    have := hv _ rfl
    cases this
    simp only [Instr.sliceBound, asIntOf, Sem.run_bind, Sem.run_pure, Result.andThen_ok]
    rw [if_pos ⟨h0, by omega⟩]; rfl

theorem bounds_ok {isS : Bool} {len cap : Nat} {lo hi : Option (Option Value)} {lo' hi' : Option Value} {l h : Nat}
    (hlo : ∀ o, lo = some o → ∃ y, lo' = some y ∧ ∀ v, o = some v → VRel ρ v y) (hlo0 : lo = none → lo' = none)
    (hhi : ∀ o, hi = some o → ∃ y, hi' = some y ∧ ∀ v, o = some v → VRel ρ v y) (hhi0 : hi = none → hi' = none)
    (h1 : bnd 0 lo = some l) (h2 : bnd len hi = some h) (hl : l ≤ h) (hc : h ≤ cap) : (Instr.sliceBounds isS len cap lo' hi' none).run P w = .ok (l, h, cap) w := by
  rcases bound_ok (P := P) (w := w) (code := if isS then .sliceAcap else .sliceAlen) hhi hhi0 h2 with ⟨rfl, rfl⟩ | ⟨y, rfl, hy⟩ <;>
    rcases bound_ok (P := P) (w := w) (code := .sliceB) hlo hlo0 h1 with ⟨rfl, rfl⟩ | ⟨z, rfl, hz⟩
  · simp [Instr.sliceBounds]
  · have := hz h hl; simp [Instr.sliceBounds, this]
  · have := hy cap hc; simp [Instr.sliceBounds, this]
  · have h3 := hy cap hc; have h4 := hz h hl; simp [Instr.sliceBounds, h3, h4]

theorem evSlice_ok (hτ : TyOk P τ) (hs : Sim ρ V w) {t : Nat} {x x' : Value} {lo hi : Option (Option Value)} {lo' hi' : Option Value} {r : Res} (hx : VRel ρ x x')
    (hlo : ∀ o, lo = some o → ∃ y, lo' = some y ∧ ∀ v, o = some v → VRel ρ v y) (hlo0 : lo = none → lo' = none)
    (hhi : ∀ o, hi = some o → ∃ y, hi' = some y ∧ ∀ v, o = some v → VRel ρ v y) (hhi0 : hi = none → hi' = none) (h : evSlice τ V t x lo hi = some r) :
    ValOk P (Instr.sliceAt t x' lo' hi' none) ρ V w n r := by
  unfold evSlice at h
  split at h
  case h_1 => cases h
  rename_i ti ht
  split at h
  · rename_i s hd
    split at h
    case h_2 => cases h
    rename_i l hh h1 h2
    split at h
    case isFalse => cases h
    rename_i hc
    cases h
    cases hx
    have hb := bounds_ok (P := P) (w := w) (isS := false) hlo hlo0 hhi hhi0 h1 h2 hc.1 hc.2
    refine .quiet hs (v' := .string (s.extract l hh)) ?_ (.string _)
    simp [Instr.sliceAt, Instr.slice, run_underlying' hτ ht, hd, hb]
  · rename_i e hd
    split at h
    case h_2 => cases h
    rename_i l hh te h1 h2 hte
    split at h
    case isFalse => cases h
    rename_i hc
    obtain ⟨rfl, rfl⟩ := hc
    cases h
    cases hx
    have hb := bounds_ok (P := P) (w := w) (isS := true) (cap := 0) hlo hlo0 hhi hhi0 h1 h2 (Nat.le_refl _) (Nat.le_refl _)
    refine .quiet hs (v' := .slice none 0 0) ?_ .nilSlice
    simp [Instr.sliceAt, Instr.slice, run_underlying' hτ ht, hd, hb, run_sizeOf' hτ hte]
  · rename_i e i off len cap hd
    have hnil : ∀ (a : Option Addr) (cc l hh : Nat) (te : TI), bnd 0 lo = some l → bnd len hi = some hh → τ e = some te → l = 0 → hh = 0 → len = 0 → (Instr.sliceAt t (.slice a 0 cc) lo' hi' none).run P w = .ok (.slice a 0 cc) w := by
      intro a cc l hh te h1 h2 hte hl hh0 hlen
      subst hl; subst hh0; subst hlen
      have hb := bounds_ok (P := P) (w := w) (isS := true) (cap := cc) (len := 0) hlo hlo0 hhi hhi0 h1 h2 (Nat.le_refl _) (Nat.zero_le _)
      have hadd : ∀ (x : Option Addr), (if cc = 0 then x else x.map (·.add (0 * te.size))) = x := by
        intro x
        split
        · rfl
        · cases x with
          | none => rfl
          | some x => simp only [Option.map_some, Nat.zero_mul]; congr 1
      simp only [Instr.sliceAt, Instr.slice, Sem.run_bind, run_underlying' hτ ht, Result.andThen_ok, hd, hb, run_sizeOf' hτ hte, Sem.run_pure, hadd, Nat.sub_zero]
    have exactly : ∀ (l hh : Nat) (te : TI) (o : VObj), bnd 0 lo = some l → bnd len hi = some hh → τ e = some te → V i = some o → o.void = false → (∀ s o', ORel ρ s o o' → s.cap = none) → l ≤ hh ∧ hh ≤ cap →
        ValOk P (Instr.sliceAt t x' lo' hi' none) ρ V w n ⟨.slice (some (if cap = l then ⟨i, off, none⟩ else ⟨i, off + l * te.size, none⟩)) (hh - l) (cap - l), [], 0, [i]⟩ := by
      intro l hh te o h1 h2 hte hVi hvd hcap0 hc
      obtain ⟨s, o', hi1, hgo, hi2, hi3⟩ := hs.real hVi hvd
      have hcap := hcap0 s o' hi3
      cases hx with
      | oslice hi' hc' => rw [hi1] at hi'; cases hi'; rw [hcap] at hc'; cases hc'
      | ghost hi' hg' => rw [hi1] at hi'; cases hi'; rw [gone_zero hg'] at hgo; cases hgo
      | hollow hi' hg' => rw [hi1] at hi'; cases hi'; rw [gone_zero hg'] at hgo; cases hgo
      | slice hi' hc' =>
      rw [hi1] at hi'; cases hi'
      have hb := bounds_ok (P := P) (w := w) (isS := true) (cap := cap) hlo hlo0 hhi hhi0 h1 h2 hc.1 hc.2
      refine .quiet hs (v' := .slice (some (if cap = l then ⟨s.blk, s.base + off, none⟩ else ⟨s.blk, s.base + (off + l * te.size), none⟩)) (hh - l) (cap - l)) ?_ ?_
      · simp only [Instr.sliceAt, Instr.slice, Sem.run_bind, run_underlying' hτ ht, Result.andThen_ok, hd, hb, run_sizeOf' hτ hte, Sem.run_pure]
        split <;> simp [add_none, Nat.add_assoc]
      · split <;> exact .slice hi1 hc'
    have open_ : ∀ (l hh : Nat) (te : TI) (s : Slot) (k sz e1 : Nat), bnd 0 lo = some l → bnd len hi = some hh → τ e = some te → ρ i = some s → s.cap = some (k, sz) → 0 < sz → e1 * sz = off → e1 + hh ≤ k → te.size = sz → l ≤ hh → (l < hh ∨ l = 0) → x' = .slice (some ⟨s.blk, s.base + off, none⟩) len (k - e1) →
        ValOk P (Instr.sliceAt t x' lo' hi' none) ρ V w n ⟨.slice (some ⟨i, off + l * te.size, none⟩) (hh - l) 0, [], 0, [i]⟩ := by
      intro l hh te s k sz e1 h1 h2 hte hi1 hcap hz he hle hc3 hc1 hc4 hx'
      subst hx'
      have hb := bounds_ok (P := P) (w := w) (isS := true) (cap := k - e1) hlo hlo0 hhi hhi0 h1 h2 hc1 (by omega)
      have hne : k - e1 ≠ l ∨ l = 0 := by omega
      refine .quiet hs (v' := .slice (some ⟨s.blk, s.base + (off + l * te.size), none⟩) (hh - l) (k - e1 - l)) ?_ ?_
      · simp only [Instr.sliceAt, Instr.slice, Sem.run_bind, run_underlying' hτ ht, Result.andThen_ok, hd, hb, run_sizeOf' hτ hte, Sem.run_pure]
        split
        · rename_i hq
          have : l = 0 := by rcases hne with q | q; exact (q hq).elim; exact q
          subst this; simp
        · simp [add_none, Nat.add_assoc]
      · have : k - e1 - l = k - (e1 + l) := by omega
        rw [this, hc3]
        exact .oslice hi1 hcap hz (by rw [Nat.add_mul, he]) (by omega)
    split at h
    · rename_i l hh te c0 e0 fr0 h1 h2 hte hVi
      split at h
      case isFalse => cases h
      rename_i hc
      cases h
      exact exactly l hh te _ h1 h2 hte hVi rfl (fun s o' h => by cases h; assumption) hc
    · rename_i l hh te c0 h1 h2 hte hVi
      split at h
      case isFalse => cases h
      rename_i hc
      cases h
      exact exactly l hh te _ h1 h2 hte hVi rfl (fun s o' h => by cases h; assumption) hc
    · rename_i l hh te c0 sz h1 h2 hte hVi
      split at h
      case isFalse => cases h
      rename_i hc
      cases h
      obtain ⟨hc1, hc2, hc3, hc5, hc4⟩ := hc
      obtain ⟨s, hi1, hat⟩ := hs.has i _ hVi
      have hcapw : s.gone = true ∨ ∃ k, s.cap = some (k, sz) ∧ 0 < sz := by
        rcases hat with ⟨hg, _, _⟩ | ⟨_, o', _, hor⟩
        · exact .inl hg
        · cases hor with | win _ _ h1 h2 _ => exact .inr ⟨_, h1, h2⟩
      cases hx with
      | slice hi' hc' => rw [hi1] at hi'; cases hi'; rcases hcapw with q | ⟨_, q, _⟩; rw [gone_none hc'] at q; cases q; rw [hc'] at q; cases q
      | ghost hi' hg' =>
        have hl0 : l = 0 := by omega
        have hh0 : hh = 0 := by omega
        subst hl0; subst hh0
        refine .quiet hs (v' := .slice none 0 0) (hnil none 0 0 0 te h1 h2 hte rfl rfl rfl) ?_
        simpa using VRel.ghost hi' hg'
      | hollow hi' hg' =>
        have hl0 : l = 0 := by omega
        have hh0 : hh = 0 := by omega
        subst hl0; subst hh0
        refine .quiet hs (hnil _ _ 0 0 te h1 h2 hte rfl rfl rfl) ?_
        simpa using VRel.hollow hi' hg'
      | oslice hi' hc' hz' he hn =>
        rename_i e1 k1 sz1 s1
        rw [hi1] at hi'; cases hi'
        rcases hcapw with q | ⟨k2, q, _⟩
        · rw [gone_pos hc' hz'] at q; cases q
        · rw [hc'] at q; cases q
          exact open_ l hh te s k1 sz e1 h1 h2 hte hi1 hc' hz' he (by omega) hc3 hc1 hc4 rfl
    · rename_i l hh te c e0 sz h1 h2 hte hVi
      split at h
      case isFalse => cases h
      rename_i hc
      cases h
      obtain ⟨hc1, hc2, hc3, hcz, hc4⟩ := hc
      obtain ⟨s, hi1, hat⟩ := hs.has i _ hVi
      rcases hat with ⟨hg, hvd, _⟩ | ⟨hg, o', hi2, hi3⟩
      · cases c with
        | cons _ _ => cases hvd
        | nil =>
        simp only [List.length_nil, Nat.le_zero_eq, Nat.add_eq_zero_iff] at hc2
        have hh0 : hh = 0 := by
          rcases Nat.mul_eq_zero.1 hc2.2 with r | r
          · exact r
          · omega
        have hl0 : l = 0 := by omega
        subst hl0; subst hh0
        cases hx with
        | slice hi' hc' => rw [hi1] at hi'; cases hi'; rw [gone_none hc'] at hg; cases hg
        | oslice hi' hc' hz' he hn => rw [hi1] at hi'; cases hi'; rw [gone_pos hc' hz'] at hg; cases hg
        | ghost hi' hg' =>
          refine .quiet hs (v' := .slice none 0 0) (hnil none 0 0 0 te h1 h2 hte rfl rfl rfl) ?_
          simpa using VRel.ghost hi' hg'
        | hollow hi' hg' =>
          refine .quiet hs (hnil _ _ 0 0 te h1 h2 hte rfl rfl rfl) ?_
          simpa using VRel.hollow hi' hg'
      cases hi3 with
      | opn _ hcap hbase hl hcc hk hz fr hf =>
      rename_i c1 c2 c' k
      cases hx with
      | slice hi' hc' => rw [hi1] at hi'; cases hi'; rw [hcap] at hc'; cases hc'
      | ghost hi' hg' => rw [hi1] at hi'; cases hi'; rw [gone_zero hg'] at hg; cases hg
      | hollow hi' hg' => rw [hi1] at hi'; cases hi'; rw [gone_zero hg'] at hg; cases hg
      | oslice hi' hc' hz' he hn =>
      rename_i e1 k1 sz1 s1
      rw [hi1] at hi'; cases hi'
      rw [hcap] at hc'; cases hc'
      rw [hc3] at hc2
      have hle : e1 + hh ≤ k := by
        have h5 : c'.size = c1.length + c2.length := by have := congrArg List.length hcc; simpa using this
        have h6 := hl.1
        have : (e1 + hh) * sz ≤ k * sz := by rw [Nat.add_mul]; omega
        exact Nat.le_of_mul_le_mul_right this hz
      exact open_ l hh te s k sz e1 h1 h2 hte hi1 hcap hz he hle hc3 hc1 hc4 rfl
    · cases h
  · rename_i m e i off hd
    split at h
    case h_2 => cases h
    rename_i l hh te c0 e0 fr0 h1 h2 hte hVi
    split at h
    case isFalse => cases h
    rename_i hc
    cases h
    cases hx with
    | ptr hi1 hgo =>
    rename_i s
    obtain ⟨o', hi2, hi3⟩ := hs.at_ hVi hi1 hgo
    cases hi3 with
    | cells _ _ hcap hbase hl =>
    have hb := bounds_ok (P := P) (w := w) (isS := false) (cap := m) hlo hlo0 hhi hhi0 h1 h2 hc.1 hc.2
    refine .quiet hs (v' := .slice (some (if m = l then ⟨s.blk, s.base + off, none⟩ else ⟨s.blk, s.base + (off + l * te.size), none⟩)) (hh - l) (m - l)) ?_ ?_
    · simp only [Instr.sliceAt, Instr.sureAddr, Sem.run_bind, run_underlying' hτ ht, Result.andThen_ok, hd, hb, run_sizeOf' hτ hte, Sem.run_pure]
      split <;> simp [add_none, Nat.add_assoc]
    · split <;> exact .slice hi1 hcap
  · cases h

end
end Go.Proofs.YtcjfidfealifhaaGreat.Vm

/- The remaining plain operations, and all of them as one function. No program in it. -/
set_option linter.unusedVariables false
set_option linter.unusedSimpArgs false
namespace Go.Proofs.YtcjfidfealifhaaGreat.Vm
open Go

def evField (τ : Nat → Option TI) (t f : Nat) (x : Value) : Option Value :=
  match τ t with
  | none => none
  | some ti =>
    match ti.desc, x with
    | .struct fs, .agg cs => match fs[f]? with
      | some fd => evPart τ fd.type cs.toList fd.offset
      | none => none
    | _, _ => none

def evFieldAddr (τ : Nat → Option TI) (t f : Nat) (x : Value) : Option Value :=
  match τ t with
  | none => none
  | some ti =>
    match ti.desc, x with
    | .struct fs, .pointer (some ⟨i, off, none⟩) => match fs[f]? with
      | some fd => match τ fd.type with
        | some tf => if tf.size = 0 then none else some (.pointer (some ⟨i, off + fd.offset, none⟩))
        | none => none
      | none => none
    | _, _ => none

def evIndexAddr (τ : Nat → Option TI) (t : Nat) (x ix : Value) : Option Value :=
  match τ t with
  | none => none
  | some ti =>
    match ti.desc, x, ix with
    | .slice e, .slice (some ⟨i, off, none⟩) len _, .int _ j => match τ e with
      | some te => if 0 ≤ j ∧ j < (len : Int) then some (.pointer (some ⟨i, off + j.toNat * te.size, none⟩)) else none
      | none => none
    | .array len e, .pointer (some ⟨i, off, none⟩), .int _ j => match τ e with
      | some te => if 0 ≤ j ∧ j < (len : Int) then some (.pointer (some ⟨i, off + j.toNat * te.size, none⟩)) else none
      | none => none
    | _, _, _ => none

def evIndex (τ : Nat → Option TI) (t : Nat) (x ix : Value) : Option Value :=
  match τ t with
  | none => none
  | some ti =>
    match ti.desc, x, ix with
    | .array len e, .agg cs, .int _ j => match τ e with
      | some te => if 0 ≤ j ∧ j < (len : Int) then evPart τ e cs.toList (j.toNat * te.size) else none
      | none => none
    | .string, .string s, .int _ j => if 0 ≤ j ∧ j < (s.size : Int) then some (.int .u8 ((s.data.toList.getD j.toNat 0).toNat : Int)) else none
    | _, _, _ => none

def evExtract (x : Value) (ix : Nat) : Option Value :=
  match x with
  | .tuple vs => vs[ix]?
  | _ => none

def asBytes : List Value → Option (List UInt8)
  | [] => some []
  | .int .u8 n :: r => (asBytes r).map (UInt8.ofNat n.toNat :: ·)
  | _ => none

def evConvert (τ : Nat → Option TI) (V : Heap) (src dst : Nat) (x : Value) : Option Res :=
  match τ src, τ dst with
  | some ts, some td =>
    match ts.desc, td.desc, x with
    | .int _, .int k, .int _ n => some (rv (.int k (k.wrap n)))
    | .string, .string, .string s => some (rv (.string s))
    | .slice e, .string, .slice none 0 0 => match τ e with
      | some te => (match te.desc with
        | .int .u8 => some (rv (.string .empty))
        | _ => none)
      | none => none
    | .slice e, .string, .slice (some ⟨i, off, none⟩) len _ =>
      match τ e, (V i).bind cellsOf with
      | some te, some c => (match te.desc with
        | .int .u8 => if off + len ≤ c.length then (asBytes ((c.drop off).take len)).map fun l => ⟨.string ⟨l.toArray⟩, [], 0, [i]⟩ else none
        | _ => none)
      | _, _ => none
    | _, _, _ => none
  | _, _ => none

def evLen (τ : Nat → Option TI) (V : Heap) (t : Nat) (x : Value) : Option Res :=
  match τ t with
  | none => none
  | some ti =>
    match ti.desc, x with
    | .string, .string s => some (rv (.int .i64 s.size))
    | .slice _, .slice _ m _ => some (rv (.int .i64 m))
    | .map _ _, .map none => some (rv (.int .i64 0))
    | .map _ _, .map (some i) => match V i with
      | some (.map es _) => some ⟨.int .i64 es.length, [], 0, [i]⟩
      | _ => none
    | .array m _, _ => some (rv (.int .i64 m))
    | _, _ => none

def evMin : List Value → Option Value
  | [.int k x, .int k' y] => if k = k' then some (.int k (if y < x then y else x)) else none
  | [.int k x, .int k' y, .int k'' z] => if k = k' ∧ k = k'' then some (.int k (if z < (if y < x then y else x) then z else (if y < x then y else x))) else none
  | _ => none

def evMax : List Value → Option Value
  | [.int k x, .int k' y] => if k = k' then some (.int k (if x < y then y else x)) else none
  | _ => none

def evAssert (τ : Nat → Option TI) (x : Value) (asserted : Nat) (ok : Bool) : Option Value :=
  match τ asserted with
  | none => none
  | some ti =>
    match ti.desc, x with
    | .interface _, _ => none
    | _, .nilIface => if ok then some (.tuple #[ti.zero, .bool false]) else none
    | _, .iface t v => if t = asserted then some (if ok then .tuple #[v, .bool true] else v) else (if ok then some (.tuple #[ti.zero, .bool false]) else none)
    | _, _ => none

section
variable {P : Program} {τ : Nat → Option TI} {ρ : Ren} {V : Heap} {w : World} {n : Nat}

theorem evField_ok (hτ : TyOk P τ) {t f : Nat} {x x' v : Value} (hx : VRel ρ x x') (h : evField τ t f x = some v) : ∃ v', (Instr.field t x' f).run P w = .ok v' w ∧ VRel ρ v v' := by
  unfold evField at h
  split at h
  case h_1 => cases h
  rename_i ti ht
  split at h
  case h_2 => cases h
  rename_i fs cs hd
  split at h
  case h_2 => cases h
  rename_i fd hf
  obtain ⟨cs', rfl, hc⟩ := vrel_agg_inv hx
  obtain ⟨v', h1, h2⟩ := evPart_ok (w := w) hτ hc h
  exact ⟨v', by simp only [Instr.field, Sem.run_bind, run_underlying' hτ ht, Result.andThen_ok, hd, hf, asAgg, Sem.run_pure]; simpa using h1, h2⟩

theorem evFieldAddr_ok (hτ : TyOk P τ) {t f : Nat} {x x' v : Value} (hx : VRel ρ x x') (h : evFieldAddr τ t f x = some v) : ∃ v', (Instr.fieldAt t x' f).run P w = .ok v' w ∧ VRel ρ v v' := by
  unfold evFieldAddr at h
  split at h
  case h_1 => cases h
  rename_i ti ht
  split at h
  case h_2 => cases h
  rename_i fs i off hd
  split at h
  case h_2 => cases h
  rename_i fd hf
  split at h
  case h_2 => cases h
  rename_i tf htf
  split at h
  case isTrue => cases h
  rename_i hz
  cases h
  cases hx with
  | ptr hi hgo =>
  refine ⟨_, ?_, .ptr hi hgo⟩
  simp [Instr.fieldAt, run_underlying' hτ ht, hd, hf, Instr.sureAddr, fieldPlace, run_sizeOf' hτ htf, hz, add_none, Nat.add_assoc]

theorem evIndexAddr_ok (hτ : TyOk P τ) {t : Nat} {x x' ix ix' v : Value} (hx : VRel ρ x x') (hi : VRel ρ ix ix') (h : evIndexAddr τ t x ix = some v) :
    ∃ v', (Instr.indexAt t x' ix').run P w = .ok v' w ∧ VRel ρ v v' := by
  unfold evIndexAddr at h
  split at h
  case h_1 => cases h
  rename_i ti ht
  split at h
  · rename_i e i off len cap k j hd
    split at h
    case h_2 => cases h
    rename_i te hte
    split at h
    case isFalse => cases h
    rename_i hc
    cases h
    cases hi
    have main : ∀ (s : Slot) c', ρ i = some s → s.gone = false → ∃ v', (Instr.indexAt t (.slice (some ⟨s.blk, s.base + off, none⟩) len c') (.int k j)).run P w = .ok v' w ∧ VRel ρ (.pointer (some ⟨i, off + j.toNat * te.size, none⟩)) v' := by
      intro s c' hs hgo
      refine ⟨_, ?_, .ptr hs hgo⟩
      simp [Instr.indexAt, asIntOf, run_underlying' hτ ht, hd, hc, run_sizeOf' hτ hte, add_none, Nat.add_assoc]
    cases hx with
    | slice h1 hc => exact main _ _ h1 (gone_none hc)
    | oslice h1 hc hz _ _ => exact main _ _ h1 (gone_pos hc hz)
    | ghost => omega
    | hollow => omega
  · rename_i len e i off k j hd
    split at h
    case h_2 => cases h
    rename_i te hte
    split at h
    case isFalse => cases h
    rename_i hc
    cases h
    cases hi
    cases hx with
    | ptr h1 hgo =>
    refine ⟨_, ?_, .ptr h1 hgo⟩
    simp [Instr.indexAt, asIntOf, Instr.sureAddr, run_underlying' hτ ht, hd, hc, run_sizeOf' hτ hte, add_none, Nat.add_assoc]
  · cases h

theorem evIndex_ok (hτ : TyOk P τ) {t : Nat} {x x' ix ix' v : Value} (hx : VRel ρ x x') (hi : VRel ρ ix ix') (h : evIndex τ t x ix = some v) :
    ∃ v', (Instr.index t x' ix').run P w = .ok v' w ∧ VRel ρ v v' := by
  unfold evIndex at h
  split at h
  case h_1 => cases h
  rename_i ti ht
  split at h
  · rename_i len e cs k j hd
    split at h
    case h_2 => cases h
    rename_i te hte
    split at h
    case isFalse => cases h
    rename_i hc
    cases hi
    obtain ⟨cs', rfl, hcs⟩ := vrel_agg_inv hx
    obtain ⟨v', h1, h2⟩ := evPart_ok (w := w) hτ hcs h
    refine ⟨v', ?_, h2⟩
    simp [Instr.index, asIntOf, run_underlying' hτ ht, hd, hc, run_sizeOf' hτ hte]
    simpa using h1
  · rename_i s k j hd
    split at h
    case isFalse => cases h
    rename_i hc
    cases h
    cases hi
    cases hx
    refine ⟨_, ?_, .int _ _⟩
    have hlt : j.toNat < s.size := by omega
    have hg : s[j.toNat]? = some (s.data.toList.getD j.toNat 0) := by
      rw [getElem?_pos s j.toNat hlt]
      simp only [List.getD_eq_getElem?_getD]
      have : j.toNat < s.data.toList.length := by simpa using hlt
      rw [List.getElem?_eq_getElem this]
      rfl
    simp only [Instr.index, asIntOf, Sem.run_bind, Sem.run_pure, Result.andThen_ok, run_underlying' hτ ht, hd, if_pos hc.1, hg]
  · cases h

theorem evExtract_ok {x x' v : Value} {ix : Nat} (hx : VRel ρ x x') (h : evExtract x ix = some v) : ∃ v', (Instr.extract x' ix).run P w = .ok v' w ∧ VRel ρ v v' := by
  unfold evExtract at h
  split at h
  case h_2 => cases h
  obtain ⟨cs', rfl, hcs⟩ := vrel_tuple_inv hx
  obtain ⟨v', h1, h2⟩ := lrel_get hcs (by simpa using h)
  exact ⟨v', by simp at h1; simp [Instr.extract, h1], h2⟩

theorem asBytes_flat : ∀ {c c' : List Value} {l : List UInt8}, LRel ρ c c' → asBytes c = some l → c' = c
  | [], [], _, _, _ => rfl
  | [], _ :: _, _, h, _ => by have := h.1; simp at this
  | v :: c, [], _, h, _ => by have := h.1; simp at this
  | v :: c, v' :: c', l, h, hb => by
    have hv := h.2 0 v v' rfl rfl
    have hr : LRel ρ c c' := ⟨by have := h.1; simpa using this, fun i x x' h1 h2 => h.2 (i + 1) x x' (by simpa using h1) (by simpa using h2)⟩
    unfold asBytes at hb
    split at hb
    · rename_i he; cases he
    · rename_i n r he
      cases he
      simp only [Option.map_eq_some_iff] at hb
      obtain ⟨l', hl', _⟩ := hb
      cases hv
      rw [asBytes_flat hr hl']
    · cases hb

theorem run_pushBytes {f : Value → ByteArray → Sem (ForInStep ByteArray)} (hf : ∀ n s, f (.int .u8 n) s = pure (.yield (s.push (UInt8.ofNat n.toNat)))) :
    ∀ (c : List Value) (l : List UInt8) (s : ByteArray), asBytes c = some l → (forIn c s f : Sem ByteArray).run P w = .ok ⟨s.data ++ l.toArray⟩ w
  | [], l, s, h => by cases h; simp
  | v :: c, l, s, h => by
    unfold asBytes at h
    split at h
    · rename_i he; cases he
    · rename_i n r he
      cases he
      simp only [Option.map_eq_some_iff] at h
      obtain ⟨l', hl', rfl⟩ := h
      have := run_pushBytes hf _ l' (s.push (UInt8.ofNat n.toNat)) hl'
      simp only [List.forIn_cons, hf, Sem.run_bind, Sem.run_pure, Result.andThen_ok]
      rw [this]
      congr 2
      apply Array.ext'
      simp [ByteArray.push]
    · cases h

theorem evConvert_ok (hτ : TyOk P τ) (hs : Sim ρ V w) {src dst : Nat} {x x' : Value} {r : Res} (hx : VRel ρ x x') (h : evConvert τ V src dst x = some r) : ValOk P (convert src dst x') ρ V w n r := by
  unfold evConvert at h
  split at h
  case h_2 => cases h
  rename_i ts td hts htd
  split at h
  · rename_i k0 k k1 m h1 h2
    cases h; cases hx
    exact .quiet hs (by simp [convert, run_underlying' hτ hts, run_underlying' hτ htd, h1, h2, Conv.intToInt]) (.int _ _)
  · rename_i s h1 h2
    cases h; cases hx
    exact .quiet hs (by simp [convert, run_underlying' hτ hts, run_underlying' hτ htd, h1, h2]) (.string _)
  · rename_i e h1 h2
    split at h
    case h_2 => cases h
    rename_i te hte
    split at h
    case h_2 => cases h
    rename_i h3
    cases h; cases hx
    exact .quiet hs (v' := .string .empty) (by simp [convert, run_underlying' hτ hts, run_underlying' hτ htd, h1, h2, run_underlying' hτ hte, h3, Conv.bytesToString]) (.string _)
  · rename_i e i off len cap h1 h2
    split at h
    case h_2 => cases h
    rename_i te c hte hc
    split at h
    case h_2 => cases h
    rename_i h3
    split at h
    case isFalse => cases h
    rename_i hlen
    simp only [Option.map_eq_some_iff] at h
    obtain ⟨l, hl, rfl⟩ := h
    cases hV : V i with
    | none => simp [hV] at hc
    | some o =>
    simp only [hV, Option.bind_some] at hc
    obtain ⟨s, c', hi, hlr, hw⟩ := block_of hs hV hc
    have hlc := hlr.1
    have main : ∀ cap', (Conv.bytesToString (.slice (some ⟨s.blk, s.base + off, none⟩) len cap')).run P w = .ok (.string ⟨l.toArray⟩) w := by
      intro cap'
      have hrun := run_loadCells_list (P := P) w ⟨s.blk, s.base + off, none⟩ ((c'.drop off).take len) (fun j v hv => by
        rw [add_none]
        rw [List.getElem?_take] at hv
        split at hv
        · rw [List.getElem?_drop] at hv; rw [Nat.add_assoc]; exact hw _ _ hv
        · cases hv)
      have hlen' : ((c'.drop off).take len).length = len := by simp only [List.length_take, List.length_drop]; omega
      rw [hlen'] at hrun
      have h4 := lrel_take (lrel_drop hlr off) len
      have h5 := asBytes_flat h4 hl
      rw [h5] at hrun
      simp only [Conv.bytesToString, Sem.run_bind, hrun, Result.andThen_ok]
      rw [← Array.forIn_toList]
      rw [run_pushBytes (P := P) (w := w) (fun _ _ => rfl) _ l ByteArray.empty hl]
      simp only [Result.andThen_ok, Sem.run_pure]
      congr 3
      simp [ByteArray.empty, ByteArray.emptyWithCapacity]
      rfl
    have fin : ∀ cap', (convert src dst (.slice (some ⟨s.blk, s.base + off, none⟩) len cap')).run P w = .ok (.string ⟨l.toArray⟩) w := by
      intro cap'
      simp only [convert, Sem.run_bind, run_underlying' hτ hts, run_underlying' hτ htd, Result.andThen_ok, h1, h2, run_underlying' hτ hte, h3, main]
    cases hx with
    | slice hi' _ => rw [hi] at hi'; cases hi'; exact .quiet hs (fin _) (.string _)
    | oslice hi' _ _ _ _ => rw [hi] at hi'; cases hi'; exact .quiet hs (fin _) (.string _)
    | hollow hi' _ =>
      simp only [List.take_zero, asBytes, Option.some.injEq] at hl
      subst hl
      exact .quiet hs (v' := .string .empty) (by simp [convert, run_underlying' hτ hts, run_underlying' hτ htd, h1, h2, run_underlying' hτ hte, h3, Conv.bytesToString, loadCells, loadCellsFrom]) (.string _)
    | ghost hi' _ =>
      simp only [List.take_zero, asBytes, Option.some.injEq] at hl
      subst hl
      exact .quiet hs (v' := .string .empty) (by simp [convert, run_underlying' hτ hts, run_underlying' hτ htd, h1, h2, run_underlying' hτ hte, h3, Conv.bytesToString]) (.string _)
  · cases h

theorem evAssert_ok (hτ : TyOk P τ) {x x' v : Value} {t a : Nat} {ok : Bool} (hx : VRel ρ x x') (h : evAssert τ x a ok = some v) : ∃ v', (Instr.typeAssert x' t a ok).run P w = .ok v' w ∧ VRel ρ v v' := by
  unfold evAssert at h
  split at h
  case h_1 => cases h
  rename_i ti hti
  have hz := hτ.zero a ti hti ρ
  have hu := run_underlying' hτ hti w
  have hzr := run_zeroValue' hτ hti w
  split at h
  · cases h
  · rename_i hni
    cases hx
    cases ok
    · cases h
    · cases h
      refine ⟨.tuple #[ti.zero, .bool false], ?_, vrel_tuple (lrel_cons hz (lrel_cons (.bool _) lrel_nil))⟩
      cases hd : ti.desc <;> first | (exact (hni _ hd).elim) | simp [Instr.typeAssert, hu, hd, hzr]
  · rename_i u y hni
    cases hx with
    | iface _ hy =>
    split at h
    · rename_i he; subst he
      cases h
      cases ok
      · refine ⟨_, ?_, hy⟩
        cases hd : ti.desc <;> first | (exact (hni _ hd).elim) | simp [Instr.typeAssert, hu, hd]
      · refine ⟨_, ?_, vrel_tuple (lrel_cons hy (lrel_cons (.bool true) lrel_nil))⟩
        cases hd : ti.desc <;> first | (exact (hni _ hd).elim) | simp [Instr.typeAssert, hu, hd]
    · rename_i he
      cases ok
      · cases h
      · cases h
        refine ⟨.tuple #[ti.zero, .bool false], ?_, vrel_tuple (lrel_cons hz (lrel_cons (.bool _) lrel_nil))⟩
        cases hd : ti.desc <;> first | (exact (hni _ hd).elim) | simp [Instr.typeAssert, hu, hd, he, hzr]
  · cases h

end
end Go.Proofs.YtcjfidfealifhaaGreat.Vm

/- Maps whose keys are plain. No program in it. -/
set_option linter.unusedVariables false
set_option linter.unusedSimpArgs false
namespace Go.Proofs.YtcjfidfealifhaaGreat.Vm
open Go

abbrev MEnt := Value × Value × Nat

def plainKey : TypeDesc → Bool
  | .int _ => true
  | .string => true
  | .bool => true
  | _ => false

def findK (kind : TypeDesc) (k : Value) : List MEnt → Nat → Option (Option (Nat × MEnt))
  | [], _ => some none
  | e :: es, i => match Instr.sameNow kind k e.1 with
    | some true => some (some (i, e))
    | some false => findK kind k es (i + 1)
    | none => none

def okPair (ok : Bool) (v : Value) (b : Bool) : Value := if ok then .tuple #[v, .bool b] else v

def evLookup (τ : Nat → Option TI) (V : Heap) (t : Nat) (m k : Value) (ok : Bool) : Option Res :=
  match τ t with
  | none => none
  | some ti => match ti.desc with
    | .map kt et => match τ kt, τ et with
      | some ki, some ei =>
        if plainKey ki.desc = true then
          match m with
          | .map none => some (rv (okPair ok ei.zero false))
          | .map (some i) => match V i with
            | some (.map es _) => match findK ki.desc k es 0 with
              | some (some (_, e)) => some ⟨okPair ok e.2.1 true, [], 0, [i]⟩
              | some none => some ⟨okPair ok ei.zero false, [], 0, [i]⟩
              | none => none
            | _ => none
          | _ => none
        else none
      | _, _ => none
    | _ => none

def evMapEntry (τ : Nat → Option TI) (V : Heap) (t : Nat) (m k : Value) : Option Res :=
  match τ t with
  | none => none
  | some ti => match ti.desc with
    | .map kt et => match τ kt, τ et with
      | some ki, some ei =>
        if plainKey ki.desc = true then
          match m with
          | .map (some i) => match V i with
            | some (.map es c) => match findK ki.desc k es 0 with
              | some (some (_, e)) => some ⟨.tuple #[e.2.1, .int .i64 e.2.2], [(i, some (.map es c))], 0, [i]⟩
              | some none => some ⟨.tuple #[ei.zero, .int .i64 c], [(i, some (.map (es ++ [(k, ei.zero, c)]) (c + 1)))], 0, [i]⟩
              | none => none
            | _ => none
          | _ => none
        else none
      | _, _ => none
    | _ => none

def setVal (b : Int) (v : Value) : List MEnt → Option (List MEnt)
  | [] => none
  | e :: es => if (e.2.2 : Int) = b then some ((e.1, v, e.2.2) :: es) else (setVal b v es).map (e :: ·)

def evEntryStore (V : Heap) (m s v : Value) : Option Res :=
  match m, s with
  | .map (some i), .int _ b => match V i with
    | some (.map es c) => (setVal b v es).map fun es' => ⟨undef, [(i, some (.map es' c))], 0, [i]⟩
    | _ => none
  | _, _ => none

section
variable {P : Program} {τ : Nat → Option TI} {ρ : Ren} {V : Heap} {w : World} {n : Nat}

theorem sameNow_ok {kind : TypeDesc} {a b a' b' : Value} {x : Bool} (ha : VRel ρ a a') (hb : VRel ρ b b') (h : Instr.sameNow kind a b = some x) : Instr.sameNow kind a' b' = some x := by
  unfold Instr.sameNow at h
  split at h
  · cases ha; cases hb; exact h
  · cases ha; cases hb; exact h
  · cases ha; cases hb; exact h
  · cases h

theorem findNow_ok {kind : TypeDesc} {k k' : Value} (hk : VRel ρ k k') : ∀ {es : List MEnt} {es' : List MapEntry} {j : Nat} {r : Option (Nat × MEnt)}, LRel ρ (es.map (·.1)) (es'.map (·.key)) → LRel ρ (es.map (·.2.1)) (es'.map (·.val)) →
    findK kind k es j = some r → ∃ r', Instr.findNow kind k' es' j = some r' ∧ match r, r' with
      | none, none => True
      | some (i, e), some (i', v') => i = i' ∧ VRel ρ e.2.1 v' ∧ j ≤ i ∧ es[i - j]? = some e ∧ Instr.sameNow kind k e.1 = some true
      | _, _ => False := by
  intro es
  induction es with
  | nil =>
    intro es' j r h1 _ h
    cases h
    obtain rfl : es' = [] := by have := h1.1; simpa using this.symm
    exact ⟨none, rfl, trivial⟩
  | cons e es ih =>
    intro es' j r h1 h2 h
    cases es' with
    | nil => have := h1.1; simp at this
    | cons e' es' =>
      have hk1 : VRel ρ e.1 e'.key := h1.2 0 _ _ rfl rfl
      have hv1 : VRel ρ e.2.1 e'.val := h2.2 0 _ _ rfl rfl
      have t1 : LRel ρ (es.map (·.1)) (es'.map (·.key)) := ⟨by have := h1.1; simpa using this, fun i v v' p q => h1.2 (i + 1) v v' (by simpa using p) (by simpa using q)⟩
      have t2 : LRel ρ (es.map (·.2.1)) (es'.map (·.val)) := ⟨by have := h2.1; simpa using this, fun i v v' p q => h2.2 (i + 1) v v' (by simpa using p) (by simpa using q)⟩
      simp only [findK] at h
      split at h
      · rename_i hs
        cases h
        refine ⟨some (j, e'.val), ?_, rfl, hv1, Nat.le_refl _, by simp, hs⟩
        simp only [Instr.findNow, sameNow_ok hk hk1 hs]
      · rename_i hs
        obtain ⟨r', g1, g2⟩ := ih t1 t2 h
        refine ⟨r', by simp only [Instr.findNow, sameNow_ok hk hk1 hs]; exact g1, ?_⟩
        cases r with
        | none =>
          cases r' with
          | none => trivial
          | some r' => exact g2.elim
        | some r =>
          cases r' with
          | none => exact g2
          | some r' =>
            obtain ⟨q1, q2, q3, q4, q5⟩ := g2
            refine ⟨q1, q2, by omega, ?_, q5⟩
            rw [show r.1 - j = (r.1 - (j + 1)) + 1 by omega, List.getElem?_cons_succ]; exact q4
      · cases h

theorem run_checkKey' {b : Bool} {n : Nat} {kt : TypeId} {d : TypeDesc} {k : Value} (hu : P.underlying kt = some d) (hp : plainKey d = true) : (Instr.checkKey b (n + 1) kt k).run P w = .ok () w := by
  simp only [Instr.checkKey, Sem.run_bind, run_underlying hu, Result.andThen_ok]
  cases d <;> first | rfl | (cases hp; done) | (cases k <;> rfl)

theorem run_checkKey {b : Bool} {kt : TypeId} {d : TypeDesc} {k : Value} (hu : P.underlying kt = some d) (hp : plainKey d = true) : (Instr.checkKey b 10000 kt k).run P w = .ok () w := by
  exact run_checkKey' (n := 9999) hu hp

theorem run_findKey {kt : TypeId} {d : TypeDesc} {k : Value} {es : List MapEntry} {r : Option (Nat × Value)} (hu : P.underlying kt = some d) (h : Instr.findNow d k es 0 = some r) : (Instr.findKey kt k es).run P w = .ok r w := by
  simp only [Instr.findKey, Sem.run_bind, run_underlying hu, Result.andThen_ok, h, Sem.run_pure]

theorem run_getMap {b c : Nat} {es : Array MapEntry} (h : w.heap[b]? = some (.map es c)) : (getObj b).run P w = .ok (.map es c) w := by simp [getObj, Sem.run, h]

theorem okPair_rel {ok b : Bool} {v v' : Value} (h : VRel ρ v v') : VRel ρ (okPair ok v b) (if ok then .tuple #[v', .bool b] else v') := by
  cases ok
  · exact h
  · exact vrel_tuple (lrel_cons h (lrel_cons (.bool _) lrel_nil))

theorem evLookup_ok (hτ : TyOk P τ) (hs : Sim ρ V w) {t : Nat} {m m' k k' : Value} {ok : Bool} {r : Res} (hm : VRel ρ m m') (hk : VRel ρ k k') (h : evLookup τ V t m k ok = some r) : ValOk P (Instr.lookup t m' k' ok) ρ V w n r := by
  unfold evLookup at h
  split at h
  case h_1 => cases h
  rename_i ti ht
  split at h
  case h_2 => cases h
  rename_i kt et hd
  split at h
  case h_2 => cases h
  rename_i ki ei hki hei
  split at h
  case isFalse => cases h
  rename_i hp
  have hu : P.underlying t = some (.map kt et) := by rw [hτ.under t ti ht, hd]
  have hku := hτ.under kt ki hki
  have hz : ∀ w, (zeroValue et).run P w = .ok ei.zero w := by
    intro w
    obtain ⟨f, hf, _, _, hz⟩ := hτ.info et ei hei
    simp [zeroValue, typeInfo, hf, hz]
  split at h
  · cases h
    cases hm
    refine .quiet hs (v' := if ok then .tuple #[ei.zero, .bool false] else ei.zero) ?_ (okPair_rel (hτ.zero et ei hei ρ))
    simp only [Instr.lookup, Sem.run_bind, run_underlying hu, Result.andThen_ok, Sem.run_pure, run_checkKey hku hp, run_findKey (es := []) hku rfl, hz]
  · rename_i i
    split at h
    case h_2 => cases h
    rename_i es c hV
    cases hm with
    | map hi hgo =>
    obtain ⟨o', h2, h3⟩ := hs.at_ hV hi hgo
    cases h3 with
    | map _ hks hvs hbs =>
    rename_i es'
    split at h
    · rename_i j e hf
      cases h
      obtain ⟨r', g1, g2⟩ := findNow_ok hk hks hvs hf
      cases r' with
      | none => exact g2.elim
      | some r' =>
      obtain ⟨_, q2, _⟩ := g2
      refine .quiet hs (v' := if ok then .tuple #[r'.2, .bool true] else r'.2) ?_ (okPair_rel q2)
      simp only [Instr.lookup, Sem.run_bind, run_underlying hu, Result.andThen_ok, Sem.run_pure, run_getMap h2, run_checkKey hku hp, run_findKey hku g1]
    · rename_i hf
      cases h
      obtain ⟨r', g1, g2⟩ := findNow_ok hk hks hvs hf
      cases r' with
      | some r' => exact g2.elim
      | none =>
      refine .quiet hs (v' := if ok then .tuple #[ei.zero, .bool false] else ei.zero) ?_ (okPair_rel (hτ.zero et ei hei ρ))
      simp only [Instr.lookup, Sem.run_bind, run_underlying hu, Result.andThen_ok, Sem.run_pure, run_getMap h2, run_checkKey hku hp, run_findKey hku g1, hz]
    · cases h
  · cases h

theorem run_setMap {b c c1 : Nat} {es es1 : Array MapEntry} (h : w.heap[b]? = some (.map es c)) : ∃ w', (setObj b (.map es1 c1)).run P w = .ok () w' ∧ Wrote b w w' ∧ w'.heap[b]? = some (.map es1 c1) := by
  have hb : b < w.heap.size := (Array.getElem?_eq_some_iff.1 h).1
  refine ⟨{ w with heap := w.heap.setIfInBounds b (.map es1 c1) }, ?_, ⟨rfl, rfl, rfl, by simp, fun k hk => by simp [Array.getElem?_setIfInBounds_ne (Ne.symm hk)]⟩, by simp [hb]⟩
  simp [setObj, Sem.run, h]

theorem put_map (hs : Sim ρ V w) {i : Nat} {es es1 : List MEnt} {c c1 : Nat} {s : Slot} {es' es1' : Array MapEntry} (hV : V i = some (.map es c)) (hi : ρ i = some s) (hgo : s.gone = false) (h2 : w.heap[s.blk]? = some (.map es' c)) (hor : ORel ρ s (.map es1 c1) (.map es1' c1)) :
    ∃ w', (setObj s.blk (.map es1' c1)).run P w = .ok () w' ∧ Sim ρ (over V [(i, some (.map es1 c1))]) w' ∧ Keep ρ V w ρ (over V [(i, some (.map es1 c1))]) w' := by
  obtain ⟨w', hrun, hwr, hw'⟩ := run_setMap (P := P) (es1 := es1') (c1 := c1) h2
  obtain ⟨h3, h4⟩ := sim_put hs hV rfl rfl hi hgo hwr hw' hor
  rw [over_cons, over_nil]
  exact ⟨w', hrun, h3, h4⟩

theorem bytes_eq {a b : ByteArray} (h : (a == b) = true) : a = b := by
  rcases a with ⟨a⟩
  rcases b with ⟨b⟩
  have h' : (a == b) = true := h
  rw [beq_iff_eq] at h'
  rw [h']

theorem sameNow_eq {kind : TypeDesc} {a b : Value} (h : Instr.sameNow kind a b = some true) : a = b := by
  unfold Instr.sameNow at h
  split at h
  · split at h
    · rename_i hk; subst hk
      simp only [Option.some.injEq, beq_iff_eq] at h; rw [h]
    · cases h
  · rw [bytes_eq (Option.some.inj h)]
  · simp only [Option.some.injEq, beq_iff_eq] at h; rw [h]
  · cases h

theorem sameBits_self {kind : TypeDesc} {a : Value} {n : Nat} (h : Instr.sameNow kind a a = some true) : Instr.sameBits (n + 1) a a = true := by
  unfold Instr.sameNow at h
  split at h <;> first | (simp [Instr.sameBits]; done) | (simp [Instr.sameBits] at h ⊢; done) | (simpa [Instr.sameBits] using h) | cases h

theorem run_keyStays {kind : TypeDesc} {a : Value} (h : Instr.sameNow kind a a = some true) : (Instr.keyThatStays a a).run P w = .ok a w := by
  have : Instr.sameBits 10000 a a = true := sameBits_self (n := 9999) h
  simp [Instr.keyThatStays, this]

theorem modify_same {es : Array MapEntry} {i : Nat} {e : MapEntry} (h : es[i]? = some e) : (es.modify i fun x => { x with key := e.key }) = es := by
  apply Array.ext (by simp)
  intro j h1 h2
  rw [Array.getElem_modify]
  split
  · rename_i he; subst he
    have : es[i] = e := by simpa [h2] using h
    rw [this]
  · rfl

theorem evMapEntry_ok (hτ : TyOk P τ) (hs : Sim ρ V w) {t : Nat} {m m' k k' : Value} {r : Res} (hm : VRel ρ m m') (hk : VRel ρ k k') (h : evMapEntry τ V t m k = some r) : ValOk P (Instr.mapEntry t m' k') ρ V w n r := by
  unfold evMapEntry at h
  split at h
  case h_1 => cases h
  rename_i ti ht
  split at h
  case h_2 => cases h
  rename_i kt et hd
  split at h
  case h_2 => cases h
  rename_i ki ei hki hei
  split at h
  case isFalse => cases h
  rename_i hp
  have hu : P.underlying t = some (.map kt et) := by rw [hτ.under t ti ht, hd]
  have hku := hτ.under kt ki hki
  have hz : ∀ w, (zeroValue et).run P w = .ok ei.zero w := by
    intro w
    obtain ⟨f, hf, _, _, hz⟩ := hτ.info et ei hei
    simp [zeroValue, typeInfo, hf, hz]
  split at h
  case h_2 => cases h
  rename_i i
  split at h
  case h_2 => cases h
  rename_i es c hV
  cases hm with
  | map hi hgo =>
  rename_i s
  obtain ⟨o', h2, h3⟩ := hs.at_ hV hi hgo
  have h3' := h3
  cases h3 with
  | map hcap hks hvs hbs =>
  rename_i es'
  split at h
  · rename_i j e hf
    cases h
    obtain ⟨r', g1, g2⟩ := findNow_ok hk hks hvs hf
    cases r' with
    | none => exact g2.elim
    | some r' =>
    obtain ⟨j', v'⟩ := r'
    obtain ⟨rfl, q2, _, q4, q5⟩ := g2
    rw [Nat.sub_zero] at q4
    have hj : j < es'.size := by
      have a := (List.getElem?_eq_some_iff.1 q4).1
      have b := hks.1
      simp only [List.length_map, Array.length_toList] at b
      omega
    have he' : es'[j]? = some es'[j] := by simp
    have hkey : VRel ρ e.1 es'[j].key := hks.2 j _ _ (by rw [List.getElem?_map, q4]; rfl) (by rw [List.getElem?_map, Array.getElem?_toList, he']; rfl)
    have hkk : es'[j].key = k' := (sameNow_eq (sameNow_ok hk hkey q5)).symm
    have hborn : e.2.2 = es'[j].born := by
      have := congrArg (fun l => l[j]?) hbs
      simp only [List.getElem?_map, q4, Option.map_some, Array.getElem?_toList, he', Option.some.injEq] at this
      exact this
    have hsame : Instr.sameNow ki.desc k' k' = some true := by have := sameNow_ok hk hkey q5; rw [hkk] at this; exact this
    obtain ⟨w', hrun, g3, g4⟩ := put_map (P := P) (es1' := es') hs hV hi hgo h2 h3'
    refine ⟨.tuple #[v', goInt es'[j].born], w', ρ, ?_, ?_, g3, g4, fun _ _ => rfl⟩
    · have hmod : (es'.modify j fun x => { x with key := k' }) = es' := by rw [← hkk]; exact modify_same he'
      simp only [Instr.mapEntry, Sem.run_bind, run_underlying hu, Result.andThen_ok, run_getMap h2, run_checkKey hku hp, run_findKey hku g1, he', Option.map_some, Option.getD_some, hkk, run_keyStays hsame, hmod, hrun, Sem.run_pure]
    · rw [hborn]; exact vrel_tuple (lrel_cons q2 (lrel_cons (.int _ _) lrel_nil))
  · rename_i hf
    cases h
    obtain ⟨r', g1, g2⟩ := findNow_ok hk hks hvs hf
    cases r' with
    | some r' => exact g2.elim
    | none =>
    have hor : ORel ρ s (.map (es ++ [(k, ei.zero, c)]) (c + 1)) (.map (es'.push { key := k', val := ei.zero, born := c }) (c + 1)) := by
      refine .map hcap ?_ ?_ ?_
      · simp only [List.map_append, List.map_cons, List.map_nil, Array.toList_push]
        exact lrel_append hks (lrel_cons hk lrel_nil)
      · simp only [List.map_append, List.map_cons, List.map_nil, Array.toList_push]
        exact lrel_append hvs (lrel_cons (hτ.zero et ei hei ρ) lrel_nil)
      · simp only [List.map_append, List.map_cons, List.map_nil, Array.toList_push, hbs]
    obtain ⟨w', hrun, g3, g4⟩ := put_map (P := P) hs hV hi hgo h2 hor
    refine ⟨.tuple #[ei.zero, goInt c], w', ρ, ?_, vrel_tuple (lrel_cons (hτ.zero et ei hei ρ) (lrel_cons (.int _ _) lrel_nil)), g3, g4, fun _ _ => rfl⟩
    simp only [Instr.mapEntry, Sem.run_bind, run_underlying hu, Result.andThen_ok, run_getMap h2, run_checkKey hku hp, run_findKey hku g1, hz, hrun, Sem.run_pure]
  · cases h

theorem lrel_tail {a b : Value} {l l' : List Value} (h : LRel ρ (a :: l) (b :: l')) : VRel ρ a b ∧ LRel ρ l l' :=
  ⟨h.2 0 a b rfl rfl, by have := h.1; simpa using this, fun i v v' p q => h.2 (i + 1) v v' (by simpa using p) (by simpa using q)⟩

theorem setVal_ok {b : Int} {v v' : Value} (hv : VRel ρ v v') : ∀ {es es1 : List MEnt} {l : List MapEntry}, LRel ρ (es.map (·.1)) (l.map (·.key)) → LRel ρ (es.map (·.2.1)) (l.map (·.val)) → es.map (·.2.2) = l.map (·.born) → setVal b v es = some es1 →
    ∃ i, l.findIdx? (fun e => (e.born : Int) == b) = some i ∧ LRel ρ (es1.map (·.1)) ((l.modify i fun e => { e with val := v' }).map (·.key)) ∧ LRel ρ (es1.map (·.2.1)) ((l.modify i fun e => { e with val := v' }).map (·.val)) ∧
      es1.map (·.2.2) = (l.modify i fun e => { e with val := v' }).map (·.born) := by
  intro es
  induction es with
  | nil => intro es1 l _ _ _ h; cases h
  | cons e es ih =>
    intro es1 l h1 h2 h3 h
    cases l with
    | nil => have := h1.1; simp at this
    | cons e' l =>
      obtain ⟨k1, k2⟩ := lrel_tail h1
      obtain ⟨v1, v2⟩ := lrel_tail h2
      simp only [List.map_cons, List.cons.injEq] at h3
      simp only [setVal] at h
      split at h
      · rename_i hb
        cases h
        refine ⟨0, ?_, ?_, ?_, ?_⟩
        · rw [List.findIdx?_cons, ← h3.1]; simp [hb]
        · exact lrel_cons k1 k2
        · exact lrel_cons hv v2
        · simp [h3.1, h3.2]
      · rename_i hb
        obtain ⟨es2, hes2, rfl⟩ := Option.map_eq_some_iff.1 h
        obtain ⟨i, g1, g2, g3, g4⟩ := ih k2 v2 h3.2 hes2
        refine ⟨i + 1, ?_, ?_, ?_, ?_⟩
        · rw [List.findIdx?_cons, ← h3.1]; simp [hb, g1]
        · simpa using lrel_cons k1 g2
        · simpa using lrel_cons v1 g3
        · simp [h3.1, g4]

theorem evEntryStore_ok (hs : Sim ρ V w) {t : Nat} {m m' s s' v v' : Value} {r : Res} (hm : VRel ρ m m') (hst : VRel ρ s s') (hv : VRel ρ v v') (h : evEntryStore V m s v = some r) :
    OpOk P (do Instr.entryStore t m' s' v'; pure .skip) ρ V w n r := by
  unfold evEntryStore at h
  split at h
  case h_2 => cases h
  rename_i i kd b
  split at h
  case h_2 => cases h
  rename_i es c hV
  obtain ⟨es1, he, rfl⟩ := Option.map_eq_some_iff.1 h
  cases hst
  cases hm with
  | map hi hgo =>
  rename_i sl
  obtain ⟨o', h2, h3⟩ := hs.at_ hV hi hgo
  cases h3 with
  | map hcap hks hvs hbs =>
  rename_i es'
  obtain ⟨j, g1, g2, g3, g4⟩ := setVal_ok hv hks hvs hbs he
  have hor : ORel ρ sl (.map es1 c) (.map (es'.modify j fun e => { e with val := v' }) c) := .map hcap (by simpa using g2) (by simpa using g3) (by simpa using g4)
  obtain ⟨w', hrun, q3, q4⟩ := put_map (P := P) hs hV hi hgo h2 hor
  refine ⟨undef, w', ρ, .inr ⟨?_, rfl⟩, vrel_tuple lrel_nil, q3, q4, fun _ _ => rfl⟩
  have hf : es'.findIdx? (fun e => (e.born : Int) == b) = some j := by rcases es' with ⟨l⟩; rw [List.findIdx?_toArray]; exact g1
  simp only [Instr.entryStore, Sem.run_bind, Result.andThen_ok, run_getMap h2, asInt, asIntOf, Sem.run_pure, hf, hrun]

end
end Go.Proofs.YtcjfidfealifhaaGreat.Vm

/- append. No program in it. -/
set_option linter.unusedVariables false
set_option linter.unusedSimpArgs false
namespace Go.Proofs.YtcjfidfealifhaaGreat.Vm
open Go

/-- What is appended: its cells, how many elements, the names read. -/
def evNews (V : Heap) (sz : Nat) (x : Value) : Option (List Value × Nat × List Nat) :=
  match x with
  | .slice none 0 0 => some ([], 0, [])
  | .slice (some ⟨j, off, none⟩) m _ => match (V j).bind cellsOf with
    | some c => if off + m * sz ≤ c.length then some ((c.drop off).take (m * sz), m, [j]) else none
    | none => none
  | _ => none

def evAppend (τ : Nat → Option TI) (V : Heap) (n t : Nat) (s x : Value) : Option Res :=
  match τ t with
  | none => none
  | some ti => match ti.desc with
    | .slice e => match τ e with
      | none => none
      | some te => match evNews V te.size x with
        | none => none
        | some (news, m, rs) =>
          if 0 < te.size ∧ news.all Value.oneCell' = true then
            match s with
            | .slice none 0 0 => if m * te.bytes ≤ 140737488355328 ∧ m ≤ 140737488355328 then some ⟨.slice (some ⟨n, 0, none⟩) m 0, [(n, some (.opn news e te.size))], 1, rs⟩ else none
            | .slice (some ⟨i, 0, none⟩) l cap =>
              if (l + m) * te.bytes ≤ 140737488355328 ∧ l + m ≤ 140737488355328 then
                match V i with
                | some (.opn c e' sz') => if e' = e ∧ sz' = te.size ∧ l * te.size ≤ c.length then some ⟨.slice (some ⟨n, 0, none⟩) (l + m) 0, [(i, none), (n, some (.opn (c.take (l * te.size) ++ news) e te.size))], 1, i :: rs⟩ else none
                | some (.cells c _ _) => if cap < l + m ∧ l * te.size ≤ c.length ∧ 0 < m then some ⟨.slice (some ⟨n, 0, none⟩) (l + m) 0, [(n, some (.opn (c.take (l * te.size) ++ news) e te.size))], 1, i :: rs⟩ else none
                | _ => none
              else none
            | _ => none
          else none
    | _ => none

/-- One that fits into what is known: in its place. -/
def evAppendIn (τ : Nat → Option TI) (V : Heap) (t : Nat) (s x : Value) : Option Res :=
  match τ t with
  | none => none
  | some ti => match ti.desc with
    | .slice e => match τ e with
      | none => none
      | some te => match evNews V te.size x with
        | none => none
        | some (news, m, rs) =>
          if 0 < te.size ∧ news.all Value.oneCell' = true then
            match s with
            | .slice (some ⟨i, 0, none⟩) l _ =>
                match V i with
                | some (.opn c e' sz') => if e' = e ∧ sz' = te.size ∧ (l + m) * te.size ≤ c.length then some ⟨.slice (some ⟨i, 0, none⟩) (l + m) 0, [(i, some (.opn (splice c (l * te.size) news) e te.size))], 0, i :: rs⟩ else none
                | _ => none
            | _ => none
          else none
    | _ => none

section
variable {P : Program} {τ : Nat → Option TI} {ρ : Ren} {V : Heap} {w : World} {n : Nat}

/-- A name's object under a new name. -/
theorem sim_ren (hs : Sim ρ V w) {i : Nat} {o : VObj} {s : Slot} (hV : V i = some o) (hi : ρ i = some s) (hf : o.fixed = false) (hn : ρ n = none) : Sim (extR ρ n s) (upd (upd V n (some o)) i none) w := by
  have hpre : Ext ρ (extR ρ n s) := Ext.extR hn _
  have hni : n ≠ i := fun e => by rw [e, hi] at hn; cases hn
  have hcase : ∀ j p, upd (upd V n (some o)) i none j = some p → (j = n ∧ p = o) ∨ (j ≠ n ∧ j ≠ i ∧ V j = some p) := by
    intro j p h
    by_cases h1 : j = i
    · subst h1; simp [upd] at h
    · by_cases h2 : j = n
      · subst h2; simp only [upd, if_neg h1, if_true, Option.some.injEq] at h; exact .inl ⟨rfl, h.symm⟩
      · simp only [upd, if_neg h1, if_neg h2] at h; exact .inr ⟨h2, h1, h⟩
  constructor
  · intro j p h
    rcases hcase j p h with ⟨rfl, rfl⟩ | ⟨h1, h2, h3⟩
    · obtain ⟨s', g1, g2⟩ := hs.has i _ hV
      rw [hi] at g1; cases g1
      exact ⟨s, by simp [extR], g2.mono hpre fun _ => rfl⟩
    · obtain ⟨s', g1, g2⟩ := hs.has j p h3
      exact ⟨s', hpre _ _ g1, g2.mono hpre fun _ => rfl⟩
  · have old : ∀ j t, j ≠ n → extR ρ n s j = some t → ρ j = some t := fun j t h1 h2 => by simpa [extR, h1] using h2
    intro a b p q t u hab hp hq ht hu ht' hu' hfx
    rcases hcase a p hp with ⟨rfl, rfl⟩ | ⟨h1, h2, h3⟩ <;> rcases hcase b q hq with ⟨rfl, rfl⟩ | ⟨k1, k2, k3⟩
    · exact (hab rfl).elim
    · simp only [extR, if_true, Option.some.injEq] at ht; subst ht
      exact hs.apart i b _ _ _ _ (Ne.symm k2) hV k3 hi (old b u k1 hu) ht' hu' (by simp [hf])
    · simp only [extR, if_true, Option.some.injEq] at hu; subst hu
      exact hs.apart a i _ _ _ _ h2 h3 hV (old a t h1 ht) hi ht' hu' (by simp [hf])
    · exact hs.apart a b _ _ _ _ hab h3 k3 (old a t h1 ht) (old b u k1 hu) ht' hu' hfx
  · refine hs.base.sub ?_
    rintro b ⟨j, p, t, hj, hpf, ht, htg, hb⟩
    rcases hcase j p hj with ⟨rfl, rfl⟩ | ⟨h1, h2, h3⟩
    · simp only [extR, if_true, Option.some.injEq] at ht; subst ht
      exact ⟨i, p, s, hV, hf, hi, htg, hb⟩
    · exact ⟨j, p, t, h3, hpf, by simpa [extR, h1] using ht, htg, hb⟩

/-- It is turned, and gets a new name. -/
theorem sim_move {w' : World} (hs : Sim ρ V w) {i : Nat} {o o1 : VObj} {o' : Obj} {s : Slot} (hV : V i = some o) (hf : o.fixed = false) (hf1 : o1.fixed = false) (hi : ρ i = some s) (hgo : s.gone = false) (hn : ρ n = none) (hw : Wrote s.blk w w')
    (ho : w'.heap[s.blk]? = some o') (hr : ORel ρ s o1 o') : Sim (extR ρ n s) (over V [(i, none), (n, some o1)]) w' ∧ Keep ρ V w (extR ρ n s) (over V [(i, none), (n, some o1)]) w' := by
  obtain ⟨h1, h2⟩ := sim_put hs hV hf hf1 hi hgo hw ho hr
  have hni : n ≠ i := fun e => by rw [e, hi] at hn; cases hn
  have e : over V [(i, none), (n, some o1)] = upd (upd (upd V i (some o1)) n (some o1)) i none := by
    rw [over_cons, over_cons, over_nil]
    funext j
    simp only [upd]
    split
    · rfl
    · split
      · rfl
      · rfl
  rw [e]
  have hV1 : upd V i (some o1) i = some o1 := by simp [upd]
  refine ⟨sim_ren h1 hV1 hi hf1 hn, { h2 with new := ?_ }⟩
  rintro b ⟨j, p, t, hj, hpf, ht, ht', hb⟩
  by_cases hji : j = i
  · subst hji; simp [upd] at hj
  · by_cases hjn : j = n
    · subst hjn
      simp only [extR, if_true, Option.some.injEq] at ht; subst ht
      exact .inl ⟨i, o, s, hV, hf, hi, ht', hb⟩
    · simp only [upd, if_neg hji, if_neg hjn] at hj
      simp only [extR, if_neg hjn] at ht
      exact .inl ⟨j, p, t, hj, hpf, ht, ht', hb⟩

/-- What is appended, in the world. -/
theorem news_of (hs : Sim ρ V w) {sz m : Nat} {x x' : Value} {news : List Value} {rs : List Nat} (hx : VRel ρ x x') (h : evNews V sz x = some (news, m, rs)) :
    ∃ news', LRel ρ news news' ∧ news'.length = m * sz ∧ (Builtin.lenOf x').run P w = .ok m w ∧ (Builtin.firstCells sz m x').run P w = .ok news'.toArray w ∧
      (0 < m → ∃ a c, x' = .slice (some a) m c ∧ ∀ (j : Nat) v, news'[j]? = some v → w.cell? (a.add j) = some v) := by
  unfold evNews at h
  split at h
  · cases h; cases hx; exact ⟨[], lrel_nil, by simp, rfl, rfl, fun h => by omega⟩
  · rename_i j off m' cp
    split at h
    case h_2 => cases h
    rename_i c hc
    split at h
    case isFalse => cases h
    rename_i hle
    cases h
    cases hg : V j with
    | none => simp [hg] at hc
    | some o =>
    simp only [hg, Option.bind_some] at hc
    obtain ⟨s', c', h1, h3, h2⟩ := block_of hs hg hc
    have hlc := h3.1
    have hcell : ∀ (k : Nat) v, ((c'.drop off).take (m * sz))[k]? = some v → w.cell? ((⟨s'.blk, s'.base + off, none⟩ : Addr).add k) = some v := by
      intro k v hv
      rw [add_none]
      rw [List.getElem?_take] at hv
      split at hv
      · rw [List.getElem?_drop] at hv; rw [Nat.add_assoc]; exact h2 _ _ hv
      · cases hv
    have hlen : ((c'.drop off).take (m * sz)).length = m * sz := by simp only [List.length_take, List.length_drop]; omega
    have fin : ∀ (cc : Nat), x' = .slice (some ⟨s'.blk, s'.base + off, none⟩) m cc → _ := fun cc he =>
      (⟨(c'.drop off).take (m * sz), lrel_take (lrel_drop h3 off) _, hlen, by rw [he]; rfl, by rw [he]; exact run_firstCells_some (P := P) w sz m _ m cc _ hlen hcell, fun _ => ⟨_, cc, he, hcell⟩⟩ :
        ∃ news', LRel ρ ((c.drop off).take (m * sz)) news' ∧ news'.length = m * sz ∧ (Builtin.lenOf x').run P w = .ok m w ∧ (Builtin.firstCells sz m x').run P w = .ok news'.toArray w ∧
          (0 < m → ∃ a c, x' = .slice (some a) m c ∧ ∀ (j : Nat) v, news'[j]? = some v → w.cell? (a.add j) = some v))
    cases hx with
    | slice hi hcp => rw [hi] at h1; cases h1; exact fin _ rfl
    | oslice hi hcp hz he hn => rw [hi] at h1; cases h1; exact fin _ rfl
    | ghost hi hcp => exact ⟨[], by simpa using lrel_nil, by simp, rfl, rfl, fun h => by omega⟩
    | hollow hi hcp => exact ⟨[], by simpa using lrel_nil, by simp, rfl, by simp [Builtin.firstCells, loadCells, loadCellsFrom], fun h => by omega⟩
  · cases h

/-- There is room. -/
theorem run_append_stay {t ty e : TypeId} {i : TypeInfo} (ht : P.underlying t = some (.slice e)) (hi : P.info? e = some i) {a : Addr} {l cap m : Nat} {x' : Value} {news : List Value} (hl : (Builtin.lenOf x').run P w = .ok m w)
    (hf : (Builtin.firstCells i.size m x').run P w = .ok news.toArray w) (hroom : l + m ≤ cap) {w' : World} (hrun : (storeCells (a.add (l * i.size)) news).run P w = .ok () w') :
    (Builtin.append_ #[t, t] ty #[.slice (some a) l cap, x']).run P w = .ok (.slice (some a) (l + m) cap) w' := by
  simp [Builtin.append_, run_underlying ht, sizeOf, typeInfo, hi, hl, hroom, hf, hrun]

theorem run_append_none {t ty e : TypeId} {i : TypeInfo} (ht : P.underlying t = some (.slice e)) (hi : P.info? e = some i) {x' : Value} (hl : (Builtin.lenOf x').run P w = .ok 0 w)
    (hf : (Builtin.firstCells i.size 0 x').run P w = .ok #[] w) : (Builtin.append_ #[t, t] ty #[.slice none 0 0, x']).run P w = .ok (.slice none 0 0) w := by
  simp [Builtin.append_, run_underlying ht, sizeOf, typeInfo, hi, hl, hf]

/-- A new name of nothing, in a place. -/
theorem ValOk.gone {x : Sem Value} {o : VObj} {s : Slot} {v v' : Value} {rs : List Nat} (hs : Sim ρ V w) (hn : ρ n = none) (hg : s.gone = true) (ho : o.void = true) (ht : s.thin = true) (h : x.run P w = .ok v' w) (hv : VRel (extR ρ n s) v v') : ValOk P x ρ V w n ⟨v, [(n, some o)], 1, rs⟩ := by
  obtain ⟨h1, h2⟩ := sim_add (w' := w) (s := s) (o := o) hs hn (fun h => by rw [hg] at h; cases h) ⟨rfl, rfl, rfl, Nat.le_refl _⟩ (fun _ _ => rfl) (.inl ⟨hg, ho, .inr ht⟩)
  refine ⟨v', w, _, h, hv, ?_, ?_, ?_⟩
  · rw [over_cons, over_nil]; exact h1
  · rw [over_cons, over_nil]; exact h2
  · intro i hi
    simp only [extR]
    rw [if_neg (by simp only at hi; omega)]

theorem cap63 {w : World} {need old e : Nat} (h : need ≤ 140737488355328) : grownCap w need old e ≤ 9223372036854775807 := by
  have := grownCap_le_maxLen w need old e (by unfold maxLen; omega)
  unfold maxLen at this; omega
theorem new_row {e : TypeId} {sz : Nat} {cs cs' : List Value} {k l : Nat} {z : Value} {w' : World} {x : Sem Value} {rs : List Nat} (hs : Sim ρ V w) (hn : ρ n = none) (hl : LRel ρ cs cs') (hcs : cs'.length = l * sz) (hz0 : z.cells.size = sz) (hz : 0 < sz) (hk : l ≤ k) (hk63 : k ≤ 9223372036854775807)
    (hw : w' = w.drew.alloc (.cells (cs'.toArray ++ Builtin.zeroCells z.cells (k - l)) e)) (h : x.run P w = .ok (.slice (some ⟨w.heap.size, 0, none⟩) l k) w') :
    ValOk P x ρ V w n ⟨.slice (some ⟨n, 0, none⟩) l 0, [(n, some (.opn cs e sz))], 1, rs⟩ := by
  have h1 : ValOk P x ρ V w n ⟨.slice (some ⟨n, 0, none⟩) l 0, [(n, some (.opn cs e sz))], 1, []⟩ := by
    refine ValOk.new (o' := .cells (cs'.toArray ++ Builtin.zeroCells z.cells (k - l)) e (0, 0)) (cap := some (k, sz)) (w' := w') hs hn (gone_pos rfl hz) ?_ h ?_ ?_
    · subst hw; exact ⟨rfl, rfl, rfl, rfl⟩
    · refine .opn (c1 := cs') (c2 := (Builtin.zeroCells z.cells (k - l)).toList) (k := k) e rfl rfl (hl.mono (Ext.extR hn _)) (by simp) ?_ hz (0, 0) (.inr ⟨rfl, hk63⟩)
      simp only [Array.size_append, List.size_toArray, size_zeroCells, hz0, hcs, ← Nat.add_mul]
      congr 1; omega
    · have := VRel.oslice (ρ := extR ρ n ⟨w.heap.size, some (k, sz), 0⟩) (i := n) (off := 0) (n := l) (e := 0) (k := k) (sz := sz) (s := ⟨w.heap.size, some (k, sz), 0⟩) (extR_self _ _ _) rfl hz (by simp) (by omega)
      simpa using this
  exact h1

theorem valok_drop {x : Sem Value} {v : Value} {L : List (Nat × Option VObj)} {k i : Nat} {rs rs' : List Nat} (h : ValOk P x ρ V w n ⟨v, L, k, rs⟩) : ValOk P x ρ V w n ⟨v, (i, none) :: L, k, rs'⟩ := by
  obtain ⟨v', w', ρ', h1, h2, h3, h4, h5⟩ := h
  have hsub : ∀ j o, over V ((i, none) :: L) j = some o → over V L j = some o := by
    intro j o h
    rw [over_cons] at h
    simp only [upd] at h
    split at h
    · cases h
    · exact h
  exact ⟨v', w', ρ', h1, h2, h3.sub hsub, h4.sub hsub, h5⟩

/-- Onto an open one. -/
theorem append_open (hτ : TyOk P τ) (hzs : ∀ t ti, τ t = some ti → ti.zero.cells.size = ti.size) (hs : Sim ρ V w) {t ty e : Nat} {ti te : TI} (ht : τ t = some ti) (hd : ti.desc = .slice e) (he : τ e = some te) {i l cap m : Nat} {s' x x' : Value} {news c : List Value} {rs rs' : List Nat}
    (hx1 : VRel ρ (.slice (some ⟨i, 0, none⟩) l cap) s') (hx : VRel ρ x x') (hnews : evNews V te.size x = some (news, m, rs)) (hsz : 0 < te.size) (hone : news.all Value.oneCell' = true) (hb : (l + m) * te.bytes ≤ 140737488355328 ∧ l + m ≤ 140737488355328)
    (hV : V i = some (.opn c e te.size)) (hle : l * te.size ≤ c.length) (hn : ρ n = none) :
    ValOk P (Builtin.append_ #[t, t] ty #[s', x']) ρ V w n ⟨.slice (some ⟨n, 0, none⟩) (l + m) 0, [(i, none), (n, some (.opn (c.take (l * te.size) ++ news) e te.size))], 1, rs'⟩ := by
  have hu : P.underlying t = some (.slice e) := by rw [hτ.under t ti ht, hd]
  obtain ⟨f, hf, hfs, hfb, hfz⟩ := hτ.info e te he
  have hz0 := hzs e te he
  obtain ⟨news', hl, hlen, hlx, hfx, hpos⟩ := news_of (P := P) hs hx hnews
  rw [← hfs] at hfx
  have hthin : ∀ s, ρ i = some s → s.gone = true → s.thin = true := by
    intro s hi hg
    obtain ⟨s1, h1, hat⟩ := hs.has i _ hV
    rw [hi] at h1; cases h1
    rcases hat with ⟨_, _, h | h⟩ | ⟨hg', _⟩
    · cases h
    · exact h
    · rw [hg] at hg'; cases hg'
  -- nothing onto nothing
  have void0 : ∀ (s : Slot) (a : Option Addr), s.gone = true → ρ i = some s → l = 0 → m = 0 → (Builtin.append_ #[t, t] ty #[.slice a 0 0, x']).run P w = .ok (.slice a 0 0) w → VRel (extR ρ n s) (.slice (some ⟨n, 0, none⟩) 0 0) (.slice a 0 0) →
      ValOk P (Builtin.append_ #[t, t] ty #[.slice a 0 0, x']) ρ V w n ⟨.slice (some ⟨n, 0, none⟩) (l + m) 0, [(i, none), (n, some (.opn (c.take (l * te.size) ++ news) e te.size))], 1, rs'⟩ := by
    rintro s a hg hi rfl rfl hrun hv
    have hnl : news = [] := by
      have := hl.1
      rw [hlen, Nat.zero_mul] at this
      exact List.length_eq_zero_iff.1 this
    subst hnl
    simp only [Nat.zero_mul, List.take_zero, List.nil_append, Nat.add_zero]
    exact valok_drop (rs := []) (ValOk.gone hs hn hg rfl (hthin s hi hg) hrun hv)
  cases hx1 with
  | slice hi hcp =>
    exfalso
    obtain ⟨o2, _, g3⟩ := hs.at_ hV hi (gone_none hcp)
    cases g3 with | opn _ hcap2 => rw [hcap2] at hcp; cases hcp
  | ghost hi hcp =>
    rename_i s0
    by_cases hm : m = 0
    · subst hm
      have hnl' : news' = [] := List.length_eq_zero_iff.1 (by rw [hlen, Nat.zero_mul])
      subst hnl'
      exact void0 _ none (gone_zero hcp) hi rfl rfl (run_append_none hu hf hlx hfx) (.ghost (extR_self _ _ _) hcp)
    · obtain ⟨a, c', rfl, hcell⟩ := hpos (by omega)
      refine valok_drop (rs := []) ?_
      simp only [Nat.zero_mul, List.take_zero, List.nil_append, Nat.zero_add] at hb ⊢
      refine new_row (k := grownCap w m 0 e) (cs' := news') (z := te.zero) (w' := _) hs hn hl hlen hz0 hsz (grownCap_ge _ _ _ _) (cap63 (by omega)) rfl ?_
      exact run_append_nil w t ty e f te.zero hu hf hfz a m c' news' (by rw [hfs]; exact hlen) hcell (by omega) (by omega) (by rw [hfb]; omega)
  | hollow hi hcp =>
    rename_i c0 s0
    obtain rfl := thin_cap hcp (hthin _ hi (gone_zero hcp))
    by_cases hm : m = 0
    · subst hm
      have hnl' : news' = [] := List.length_eq_zero_iff.1 (by rw [hlen, Nat.zero_mul])
      subst hnl'
      exact void0 _ _ (gone_zero hcp) hi rfl rfl (run_append_stay hu hf hlx hfx (Nat.le_refl _) (by simp [storeCells])) (.hollow (extR_self _ _ _) hcp)
    · obtain ⟨a, c', rfl, hcell⟩ := hpos (by omega)
      refine valok_drop (rs := []) ?_
      simp only [Nat.zero_mul, List.take_zero, List.nil_append, Nat.zero_add] at hb ⊢
      refine new_row (k := grownCap w (0 + m) 0 e) (cs' := news') (z := te.zero) (w' := _) hs hn hl hlen hz0 hsz (by have := grownCap_ge w (0 + m) 0 e; omega) (cap63 (by omega)) rfl ?_
      have := run_append_grow (P := P) w t ty e f te.zero hu hf hfz ⟨s0.blk, s0.base, none⟩ 0 0 [] (by simp) (fun j v h => by simp at h) a m c' news' (by rw [hfs]; exact hlen) hcell (by omega) (by omega) (by rw [hfb]; exact growslice_fits (by omega) (by rw [Nat.zero_add]; omega))
      simpa using this
  | oslice hi hcap2 hz2 hee hnk =>
    rename_i e0 k0 sz0 sl
    obtain ⟨o', g2, g3⟩ := hs.at_ hV hi (gone_pos hcap2 hz2)
    cases g3 with
    | @opn _ c1 c2 c' k _ _ hcap3 hb0 hl2 hcc hk hz' fr hfr =>
    rw [hcap2] at hcap3; cases hcap3
    obtain rfl : e0 = 0 := by rcases Nat.mul_eq_zero.1 hee with h | h <;> omega
    rw [Nat.sub_zero, hb0]
    have hlc := hl2.1
    have hcl : c1.length ≤ c'.size := by have := congrArg List.length hcc; simp only [Array.length_toList, List.length_append] at this; omega
    have holen : (c1.take (l * te.size)).length = l * te.size := by rw [List.length_take]; omega
    have hcs : (c1.take (l * te.size) ++ news').length = (l + m) * te.size := by rw [List.length_append, holen, hlen, Nat.add_mul]
    have htake : c'.toList.take (l * te.size) = c1.take (l * te.size) := by rw [hcc, List.take_append_of_le_length (by omega)]
    have hgo := gone_pos hcap2 hz2
    by_cases hroom : l + m ≤ k0
    · have hfit : l * te.size + m * te.size ≤ c'.size := by rw [hk, ← Nat.add_mul]; exact Nat.mul_le_mul_right _ hroom
      have hone' : ∀ v ∈ news', v.oneCell' = true := lrel_one hl hone
      obtain ⟨w', hrun, hwr, hw'⟩ := run_storeCells (P := P) (off := l * te.size) (fr := fr) news' 0 w c' g2 (by omega) hone' (by
        intro j h1 h2 ⟨h3, h4⟩
        rcases hfr with h | h <;> omega)
      rw [Nat.add_zero] at hw'
      have hor : ORel ρ sl (.opn (c.take (l * te.size) ++ news) e te.size) (.cells (splice c'.toList (l * te.size) news').toArray e fr) := by
        refine .opn (c1 := c1.take (l * te.size) ++ news') (c2 := c'.toList.drop (l * te.size + news'.length)) (k := k0) e hcap2 hb0 (lrel_append (lrel_take hl2 _) hl) ?_ ?_ hz' fr ?_
        · simp only [splice, htake]
        · simp only [splice, List.size_toArray, List.length_append, List.length_take, List.length_drop, Array.length_toList, hlen]
          rw [← hk]; omega
        · rcases hfr with h | h
          · refine .inl ⟨?_, h.2⟩
            simp only [splice, List.size_toArray, List.length_append, List.length_take, List.length_drop, Array.length_toList, hlen]
            omega
          · exact .inr h
      obtain ⟨q1, q2⟩ := sim_move (n := n) (o1 := .opn (c.take (l * te.size) ++ news) e te.size) hs hV rfl rfl hi hgo hn hwr hw' hor
      have hadd : (⟨sl.blk, 0 + 0, none⟩ : Addr).add (l * f.size) = ⟨sl.blk, l * te.size, none⟩ := by rw [add_none, hfs]; simp
      refine ⟨.slice (some ⟨sl.blk, 0 + 0, none⟩) (l + m) k0, w', _, run_append_stay hu hf hlx hfx hroom (by rw [hadd]; exact hrun), ?_, q1, q2, ?_⟩
      · have := VRel.oslice (ρ := extR ρ n sl) (i := n) (off := 0) (n := l + m) (e := 0) (k := k0) (sz := te.size) (s := sl) (extR_self _ _ _) hcap2 hz' (by simp) (by omega)
        simpa [hb0] using this
      · intro j hj
        simp only [extR]
        rw [if_neg (by simp only at hj; omega)]
    · obtain ⟨a, cx, rfl, hcell⟩ := hpos (by omega)
      refine valok_drop (rs := []) ?_
      refine new_row (k := grownCap w (l + m) k0 e) (cs' := c1.take (l * te.size) ++ news') (z := te.zero) (w' := _) hs hn (lrel_append (lrel_take hl2 _) hl) hcs hz0 hsz (grownCap_ge _ _ _ _) (cap63 (by omega)) rfl ?_
      have := run_append_grow (P := P) w t ty e f te.zero hu hf hfz ⟨sl.blk, 0 + 0, none⟩ l k0 (c1.take (l * te.size)) (by rw [hfs]; exact holen) (fun j v hv => by
        rw [add_none, cell_of w g2, ← Array.getElem?_toList, hcc]
        rw [List.getElem?_take] at hv
        split at hv
        · simp only [Nat.zero_add]; rw [List.getElem?_append_left (List.getElem?_eq_some_iff.1 hv).1]; exact hv
        · cases hv) a m cx news' (by rw [hfs]; exact hlen) hcell (by omega) (by omega) (by rw [hfb]; exact growslice_fits (by omega) (by omega))
      rw [this]
      congr 2
      simp

theorem evAppend_ok (hτ : TyOk P τ) (hzs : ∀ t ti, τ t = some ti → ti.zero.cells.size = ti.size) (hs : Sim ρ V w) {t ty : Nat} {s s' x x' : Value} {r : Res} (hx1 : VRel ρ s s') (hx : VRel ρ x x') (hn : ∀ i, n ≤ i → i < n + r.k → ρ i = none)
    (h : evAppend τ V n t s x = some r) : ValOk P (Builtin.append_ #[t, t] ty #[s', x']) ρ V w n r := by
  unfold evAppend at h
  split at h
  case h_1 => cases h
  rename_i ti ht
  split at h
  case h_2 => cases h
  rename_i e hd
  split at h
  case h_1 => cases h
  rename_i te he
  split at h
  case h_1 => cases h
  rename_i news m rs hnews
  split at h
  case isFalse => cases h
  rename_i hc
  obtain ⟨hsz, hone⟩ := hc
  have hu : P.underlying t = some (.slice e) := by rw [hτ.under t ti ht, hd]
  obtain ⟨f, hf, hfs, hfb, hfz⟩ := hτ.info e te he
  have hz0 := hzs e te he
  split at h
  · split at h
    case isFalse => cases h
    rename_i hb
    cases h
    cases hx1
    obtain ⟨news', hl, hlen, hlx, hfx, hpos⟩ := news_of (P := P) hs hx hnews
    have hn0 := hn n (Nat.le_refl _) (by simp)
    by_cases hm : m = 0
    · subst hm
      have hnl' : news' = [] := List.length_eq_zero_iff.1 (by rw [hlen, Nat.zero_mul])
      subst hnl'
      have hnl : news = [] := List.length_eq_zero_iff.1 (by rw [hl.1]; rfl)
      subst hnl
      rw [← hfs] at hfx
      exact ValOk.void hs hn0 rfl (run_append_none hu hf hlx hfx) (.ghost (extR_self _ _ _) rfl)
    · obtain ⟨a, c', rfl, hcell⟩ := hpos (by omega)
      refine new_row (k := grownCap w m 0 e) (cs' := news') (z := te.zero) (w' := _) hs hn0 hl hlen hz0 hsz (grownCap_ge _ _ _ _) (cap63 (by omega)) rfl ?_
      exact run_append_nil w t ty e f te.zero hu hf hfz a m c' news' (by rw [hfs]; exact hlen) hcell (by omega) (by omega) (by rw [hfb]; omega)
  · rename_i i l cap
    split at h
    case isFalse => cases h
    rename_i hb
    split at h
    · rename_i cc e' sz' hV
      split at h
      case isFalse => cases h
      rename_i hcond
      obtain ⟨rfl, rfl, hle⟩ := hcond
      cases h
      exact append_open hτ hzs hs ht hd he hx1 hx hnews hsz hone hb hV hle (hn n (Nat.le_refl _) (by simp))
    · rename_i cc e' fr hV
      split at h
      case isFalse => cases h
      rename_i hcap
      cases h
      obtain ⟨sl, c', h1, h3, h2⟩ := block_of hs hV rfl
      have hreal : sl.cap = none := by
        obtain ⟨s2, o2, g1, _, _, g3⟩ := hs.real hV rfl
        rw [h1] at g1; cases g1
        cases g3 with | cells _ _ hcap2 _ _ => exact hcap2
      obtain ⟨news', hl, hlen, hlx, hfx, hpos⟩ := news_of (P := P) hs hx hnews
      cases hx1 with
      | oslice hi hcp _ _ _ => rw [h1] at hi; cases hi; rw [hreal] at hcp; cases hcp
      | ghost hi hcp => rw [h1] at hi; cases hi; rw [hreal] at hcp; cases hcp
      | hollow hi hcp => rw [h1] at hi; cases hi; rw [hreal] at hcp; cases hcp
      | slice hi hcp =>
        rw [hi] at h1; cases h1
        have hlc := h3.1
        have holen : (c'.take (l * te.size)).length = l * te.size := by rw [List.length_take]; omega
        have hcs : (c'.take (l * te.size) ++ news').length = (l + m) * te.size := by rw [List.length_append, holen, hlen, Nat.add_mul]
        by_cases hm : m = 0
        · exfalso
          have := hcap.2.2
          omega
        obtain ⟨a, c, rfl, hcell⟩ := hpos (by omega)
        refine new_row (k := grownCap w (l + m) cap e) (cs' := c'.take (l * te.size) ++ news') (z := te.zero) (w' := _) hs (hn n (Nat.le_refl _) (by simp)) (lrel_append (lrel_take h3 _) hl) hcs hz0 hsz (grownCap_ge _ _ _ _) (cap63 (by omega)) rfl ?_
        have := run_append_grow (P := P) w t ty e f te.zero hu hf hfz ⟨sl.blk, sl.base + 0, none⟩ l cap (c'.take (l * te.size)) (by rw [hfs]; exact holen) (fun j v hv => by
          rw [add_none]
          rw [List.getElem?_take] at hv
          split at hv
          · exact h2 _ _ hv
          · cases hv) a m c news' (by rw [hfs]; exact hlen) hcell hcap.1 (by omega) ?_
        · rw [this]
          congr 2
          simp
        · rw [hfb]; exact growslice_fits hcap.1 (by omega)
    · cases h
  · cases h

theorem evAppendIn_ok (hτ : TyOk P τ) (hs : Sim ρ V w) {t ty : Nat} {s s' x x' : Value} {r : Res} (hx1 : VRel ρ s s') (hx : VRel ρ x x') (h : evAppendIn τ V t s x = some r) : ValOk P (Builtin.append_ #[t, t] ty #[s', x']) ρ V w n r := by
  unfold evAppendIn at h
  split at h
  case h_1 => cases h
  rename_i ti ht
  split at h
  case h_2 => cases h
  rename_i e hd
  split at h
  case h_1 => cases h
  rename_i te he
  split at h
  case h_1 => cases h
  rename_i news m rs hnews
  split at h
  case isFalse => cases h
  rename_i hc
  obtain ⟨hsz, hone⟩ := hc
  have hu : P.underlying t = some (.slice e) := by rw [hτ.under t ti ht, hd]
  obtain ⟨f, hf, hfs, hfb, hfz⟩ := hτ.info e te he
  split at h
  case h_2 => cases h
  rename_i i l cap
  split at h
  case h_2 => cases h
  rename_i c e' sz' hV
  split at h
  case isFalse => cases h
  rename_i hcond
  obtain ⟨rfl, rfl, hle⟩ := hcond
  cases h
  obtain ⟨news', hl, hlen, hlx, hfx, hpos⟩ := news_of (P := P) hs hx hnews
  rw [← hfs] at hfx
  have hnlen : news.length = m * te.size := by rw [hl.1, hlen]
  -- nothing at all
  have void0 : ∀ (s : Slot) (a : Option Addr), s.gone = true → ρ i = some s → l = 0 → (m = 0 → (Builtin.append_ #[t, t] ty #[.slice a 0 0, x']).run P w = .ok (.slice a 0 0) w) → VRel ρ (.slice (some ⟨i, 0, none⟩) 0 0) (.slice a 0 0) →
      ValOk P (Builtin.append_ #[t, t] ty #[.slice a 0 0, x']) ρ V w n ⟨.slice (some ⟨i, 0, none⟩) (l + m) 0, [(i, some (.opn (splice c (l * te.size) news) e' te.size))], 0, i :: rs⟩ := by
    rintro s a hg hi rfl hrun hv
    obtain ⟨s1, h1, hat⟩ := hs.has i _ hV
    rw [hi] at h1; cases h1
    rcases hat with ⟨_, hvd, _⟩ | ⟨hg', _⟩
    · cases c with
      | cons _ _ => cases hvd
      | nil =>
      have hm : m = 0 := by
        simp only [List.length_nil, Nat.le_zero_eq, Nat.mul_eq_zero] at hle
        omega
      subst hm
      have hnl : news = [] := List.length_eq_zero_iff.1 (by rw [hnlen, Nat.zero_mul])
      subst hnl
      have hsame : over V [(i, some (.opn (splice [] (0 * te.size) []) e' te.size))] = V := by
        rw [over_cons, over_nil]
        funext j
        simp only [upd]
        split
        · rename_i hj; subst hj; rw [hV]; simp [splice]
        · rfl
      refine ⟨_, w, ρ, hrun rfl, hv, ?_, ?_, fun _ _ => rfl⟩
      · rw [hsame]; exact hs
      · rw [hsame]; exact .refl _ _ _
    · rw [hg] at hg'; cases hg'
  cases hx1 with
  | slice hi hcp =>
    exfalso
    obtain ⟨o2, _, g3⟩ := hs.at_ hV hi (gone_none hcp)
    cases g3 with | opn _ hcap2 => rw [hcap2] at hcp; cases hcp
  | ghost hi hcp =>
    refine void0 _ none (gone_zero hcp) hi rfl (fun hm => ?_) (.ghost hi hcp)
    subst hm
    have hnl' : news' = [] := List.length_eq_zero_iff.1 (by rw [hlen, Nat.zero_mul])
    subst hnl'
    exact run_append_none hu hf hlx hfx
  | hollow hi hcp =>
    obtain rfl : _ = 0 := thin_cap hcp (by
      obtain ⟨s1, h1, hat⟩ := hs.has i _ hV
      rw [hi] at h1; cases h1
      rcases hat with ⟨_, _, h | h⟩ | ⟨hg', _⟩
      · cases h
      · exact h
      · rw [gone_zero hcp] at hg'; cases hg')
    refine void0 _ _ (gone_zero hcp) hi rfl (fun hm => ?_) (.hollow hi hcp)
    subst hm
    have hnl' : news' = [] := List.length_eq_zero_iff.1 (by rw [hlen, Nat.zero_mul])
    subst hnl'
    exact run_append_stay hu hf hlx hfx (Nat.le_refl _) (by simp [storeCells])
  | oslice hi hcap2 hz2 hee hnk =>
    rename_i e0 k0 sz0 sl
    have hgo := gone_pos hcap2 hz2
    obtain ⟨o', g2, g3⟩ := hs.at_ hV hi hgo
    cases g3 with
    | @opn _ c1 c2 c' k _ _ hcap3 hb0 hl2 hcc hk hz' fr hfr =>
    rw [hcap2] at hcap3; cases hcap3
    obtain rfl : e0 = 0 := by rcases Nat.mul_eq_zero.1 hee with h | h <;> omega
    rw [Nat.sub_zero, hb0]
    have hlc := hl2.1
    have hcl : c'.size = c1.length + c2.length := by have := congrArg List.length hcc; simpa using this
    have hfit : l * te.size + m * te.size ≤ c1.length := by rw [← Nat.add_mul]; omega
    have hroom : l + m ≤ k0 := by
      have : (l + m) * te.size ≤ k0 * te.size := by rw [Nat.add_mul]; omega
      exact Nat.le_of_mul_le_mul_right this hz2
    have hone' : ∀ v ∈ news', v.oneCell' = true := lrel_one hl hone
    obtain ⟨w', hrun, hwr, hw'⟩ := run_storeCells (P := P) (off := l * te.size) (fr := fr) news' 0 w c' g2 (by omega) hone' (by
      intro j h1 h2 ⟨h3, h4⟩
      rcases hfr with h | h <;> omega)
    rw [Nat.add_zero] at hw'
    have hor : ORel ρ sl (.opn (splice c (l * te.size) news) e' te.size) (.cells (splice c'.toList (l * te.size) news').toArray e' fr) := by
      refine .opn (c1 := splice c1 (l * te.size) news') (c2 := c2) (k := k0) e' hcap2 hb0 (lrel_splice hl2 hl _) ?_ ?_ hz' fr ?_
      · show splice c'.toList (l * te.size) news' = _
        rw [hcc]
        unfold splice
        rw [List.take_append_of_le_length (by omega), List.drop_append_of_le_length (by omega)]
        simp
      · rw [List.size_toArray, splice_length _ _ _ (by simp only [Array.length_toList]; omega)]; simpa using hk
      · rw [List.size_toArray, splice_length _ _ _ (by simp only [Array.length_toList]; omega)]; simpa using hfr
    obtain ⟨q1, q2⟩ := sim_put hs hV rfl rfl hi hgo hwr hw' hor
    have hadd : (⟨sl.blk, 0 + 0, none⟩ : Addr).add (l * f.size) = ⟨sl.blk, l * te.size, none⟩ := by rw [add_none, hfs]; simp
    refine ⟨.slice (some ⟨sl.blk, 0 + 0, none⟩) (l + m) k0, w', ρ, run_append_stay hu hf hlx hfx hroom (by rw [hadd]; exact hrun), ?_, ?_, ?_, fun _ _ => rfl⟩
    · have := VRel.oslice (ρ := ρ) (i := i) (off := 0) (n := l + m) (e := 0) (k := k0) (sz := te.size) (s := sl) hi hcap2 hz' (by simp) (by omega)
      simpa [hb0] using this
    · rw [over_cons, over_nil]; exact q1
    · rw [over_cons, over_nil]; exact q2

end
end Go.Proofs.YtcjfidfealifhaaGreat.Vm

/- make, copy, clear, bytes of a text. No program in it. -/
set_option linter.unusedVariables false
set_option linter.unusedSimpArgs false
namespace Go.Proofs.YtcjfidfealifhaaGreat.Vm
open Go

def evMakeSlice (τ : Nat → Option TI) (n t : Nat) (l c : Value) : Option Res :=
  match τ t with
  | none => none
  | some ti => match ti.desc, l, c with
    | .slice e, .int _ l, .int _ c => match τ e with
      | some te => if 0 ≤ l ∧ l = c ∧ 0 < te.size ∧ (te.bytes : Int) * c ≤ 140737488355328 ∧ c ≤ 140737488355328 then
          some ⟨.slice (some ⟨n, 0, none⟩) l.toNat 0, [(n, some (.opn (zeros te.zero.cells.toList l.toNat) e te.size))], 1, []⟩ else none
      | none => none
    | _, _, _ => none

def u8s (s : ByteArray) : List Value := s.data.toList.map fun b => .int .u8 b.toNat

/-- The first elements of a slice, or bytes of a text. -/
def evFirst (V : Heap) (sz n : Nat) : Value → Option (List Value × List Nat)
  | .slice none 0 0 => if n = 0 then some ([], []) else none
  | .slice (some ⟨j, off, none⟩) m _ => match (V j).bind cellsOf with
    | some c => if off + n * sz ≤ c.length ∧ n ≤ m then some ((c.drop off).take (n * sz), [j]) else none
    | none => none
  | .string s => if sz = 1 ∧ n ≤ s.size then some ((u8s s).take n, []) else none
  | _ => none

def lenV : Value → Option Nat
  | .slice _ m _ => some m
  | .string s => some s.size
  | _ => none

def evCopy (τ : Nat → Option TI) (V : Heap) (t : Nat) (dst src : Value) : Option Res :=
  match τ t with
  | none => none
  | some ti => match ti.desc with
    | .slice e => match τ e with
      | none => none
      | some te => match dst, lenV src with
        | .slice (some ⟨i, off, none⟩) dl _, some sl => match evFirst V te.size (min sl dl) src, V i with
          | some (cs, rs), some (.opn c e' sz) =>
            if off + cs.length ≤ c.length ∧ cs.all Value.oneCell' = true then some ⟨.int .i64 (min sl dl : Nat), [(i, some (.opn (splice c off cs) e' sz))], 0, i :: rs⟩ else none
          | _, _ => none
        | _, _ => none
    | _ => none

def evClear (τ : Nat → Option TI) (V : Heap) (t : Nat) (x : Value) : Option Res :=
  match τ t with
  | none => none
  | some ti => match ti.desc with
    | .slice e => match τ e, x with
      | some te, .slice (some ⟨i, off, none⟩) m _ => match V i with
        | some (.opn c e' sz) => if off + m * te.size ≤ c.length ∧ te.zero.cells.toList.all Value.oneCell' = true then some ⟨undef, [(i, some (.opn (splice c off (zeros te.zero.cells.toList m)) e' sz))], 0, [i]⟩ else none
        | _ => none
      | _, _ => none
    | _ => none

def evBytes (τ : Nat → Option TI) (n src dst : Nat) (x : Value) : Option Res :=
  match τ src, τ dst with
  | some ts, some td => match ts.desc, td.desc, x with
    | .string, .slice e, .string s => match τ e with
      | some te => match te.desc with
        | .int .u8 => if te.size = 1 then some ⟨.slice (some ⟨n, 0, none⟩) s.size 0, [(n, some (.opn (u8s s) e 1))], 1, []⟩ else none
        | _ => none
      | none => none
    | _, _, _ => none
  | _, _ => none

section
variable {P : Program} {τ : Nat → Option TI} {ρ : Ren} {V : Heap} {w : World} {n : Nat}

theorem madeCells_zeros {z : Array Value} {k : Nat} : (Go.madeCells z (k * z.size)) = (zeros z.toList k).toArray := by
  rw [← zeros_range]; rfl

theorem evMakeSlice_ok (hτ : TyOk P τ) (hzs : ∀ t ti, τ t = some ti → ti.zero.cells.size = ti.size) (hs : Sim ρ V w) {t : Nat} {l c l' c' : Value} {r : Res} (hl : VRel ρ l l') (hc : VRel ρ c c') (hn : ∀ i, n ≤ i → i < n + r.k → ρ i = none)
    (h : evMakeSlice τ n t l c = some r) : ValOk P (Instr.makeSlice t l' c') ρ V w n r := by
  unfold evMakeSlice at h
  split at h
  case h_1 => cases h
  rename_i ti ht
  split at h
  case h_2 => cases h
  rename_i e k1 l k2 c hd
  split at h
  case h_2 => cases h
  rename_i te he
  split at h
  case isFalse => cases h
  rename_i hcond
  obtain ⟨h0, rfl, hsz, hb, h63⟩ := hcond
  cases h
  cases hl; cases hc
  have hu : P.underlying t = some (.slice e) := by rw [hτ.under t ti ht, hd]
  obtain ⟨f, hf, hfs, hfb, hfz⟩ := hτ.info e te he
  have hz0 := hzs e te he
  have hrun := run_make (P := P) w t e f te.zero hu hf hfz k1 k2 l l h0 (Int.le_refl _) (by rw [hfb]; omega) (by omega)
  rw [hfs, ← hz0, madeCells_zeros] at hrun
  refine ValOk.new (o' := .cells (zeros te.zero.cells.toList l.toNat).toArray e (0, 0)) (cap := some (l.toNat, te.size)) (w' := w.alloc (.cells (zeros te.zero.cells.toList l.toNat).toArray e)) hs (hn n (Nat.le_refl _) (by simp)) (gone_pos rfl hsz) ⟨rfl, rfl, rfl, rfl⟩ hrun ?_ ?_
  · refine .opn (c1 := zeros te.zero.cells.toList l.toNat) (c2 := []) (k := l.toNat) e rfl rfl (lrel_zeros (vrel_cells (hτ.zero e te he _)) _) (by simp) ?_ hsz (0, 0) (.inr ⟨rfl, by omega⟩)
    rw [List.size_toArray, zeros_length, Array.length_toList, hz0]
  · have := VRel.oslice (ρ := extR ρ n ⟨w.heap.size, some (l.toNat, te.size), 0⟩) (i := n) (off := 0) (n := l.toNat) (e := 0) (k := l.toNat) (sz := te.size) (s := ⟨w.heap.size, some (l.toNat, te.size), 0⟩) (extR_self _ _ _) rfl hsz (by simp) (by omega)
    simpa using this

theorem lrel_u8s (s : ByteArray) : LRel ρ (u8s s) (u8s s) := by
  refine ⟨rfl, fun i v v' h1 h2 => ?_⟩
  rw [h1] at h2; cases h2
  unfold u8s at h1
  rw [List.getElem?_map] at h1
  obtain ⟨x, _, rfl⟩ := Option.map_eq_some_iff.1 h1
  exact .int _ _

theorem first_of (hs : Sim ρ V w) {sz k : Nat} {x x' : Value} {cs : List Value} {rs : List Nat} (hx : VRel ρ x x') (h : evFirst V sz k x = some (cs, rs)) : ∃ cs', LRel ρ cs cs' ∧ (Builtin.firstCells sz k x').run P w = .ok cs'.toArray w := by
  unfold evFirst at h
  split at h
  · split at h
    case isFalse => cases h
    cases h; cases hx; exact ⟨[], lrel_nil, rfl⟩
  · rename_i j off m cp
    split at h
    case h_2 => cases h
    rename_i c hc
    split at h
    case isFalse => cases h
    rename_i hle
    cases h
    cases hg : V j with
    | none => simp [hg] at hc
    | some o =>
    simp only [hg, Option.bind_some] at hc
    obtain ⟨s', c', h1, h3, h2⟩ := block_of hs hg hc
    have hlc := h3.1
    have hcell : ∀ (i : Nat) v, ((c'.drop off).take (k * sz))[i]? = some v → w.cell? ((⟨s'.blk, s'.base + off, none⟩ : Addr).add i) = some v := by
      intro i v hv
      rw [add_none]
      rw [List.getElem?_take] at hv
      split at hv
      · rw [List.getElem?_drop] at hv; rw [Nat.add_assoc]; exact h2 _ _ hv
      · cases hv
    have hlen : ((c'.drop off).take (k * sz)).length = k * sz := by simp only [List.length_take, List.length_drop]; omega
    have fin : ∀ (cc : Nat), (Builtin.firstCells sz k (.slice (some ⟨s'.blk, s'.base + off, none⟩) m cc)).run P w = .ok ((c'.drop off).take (k * sz)).toArray w := by
      intro cc
      have := run_loadCells_list (P := P) w ⟨s'.blk, s'.base + off, none⟩ ((c'.drop off).take (k * sz)) hcell
      rw [hlen] at this
      exact this
    cases hx with
    | slice hi hcp => rw [hi] at h1; cases h1; exact ⟨_, lrel_take (lrel_drop h3 off) _, fin _⟩
    | oslice hi hcp hz he hn => rw [hi] at h1; cases h1; exact ⟨_, lrel_take (lrel_drop h3 off) _, fin _⟩
    | ghost hi hcp =>
      obtain rfl : k = 0 := by omega
      exact ⟨[], by simpa using lrel_nil, rfl⟩
    | hollow hi hcp =>
      obtain rfl : k = 0 := by omega
      exact ⟨[], by simpa using lrel_nil, by simp [Builtin.firstCells, loadCells, loadCellsFrom]⟩
  · rename_i s
    split at h
    case isFalse => cases h
    rename_i hc
    obtain ⟨rfl, hk⟩ := hc
    cases h; cases hx
    refine ⟨_, lrel_take (lrel_u8s s) k, ?_⟩
    simp only [Builtin.firstCells, Sem.run_pure, Result.ok.injEq, and_true]
    apply Array.ext'
    simp [u8s, ByteArray.data_extract, List.map_take]
  · cases h

theorem lenV_ok {x x' : Value} {k : Nat} (hx : VRel ρ x x') (h : lenV x = some k) : (Builtin.lenOf x').run P w = .ok k w := by
  unfold lenV at h
  split at h
  · cases h; cases hx <;> rfl
  · cases h; cases hx; rfl
  · cases h

theorem run_copy {t ty u e : TypeId} {i : TypeInfo} (ht : P.underlying t = some (.slice e)) (hi : P.info? e = some i) {a : Addr} {dl cap sl : Nat} {x' : Value} {cs : List Value} (hl : (Builtin.lenOf x').run P w = .ok sl w)
    (hf : (Builtin.firstCells i.size (min sl dl) x').run P w = .ok cs.toArray w) {w' : World} (hrun : (storeCells a cs).run P w = .ok () w') :
    (Builtin.copy_ #[t, u] ty #[.slice (some a) dl cap, x']).run P w = .ok (.int .i64 (min sl dl : Nat)) w' := by
  have hf' : (Builtin.firstCells i.size (Nat.min sl dl) x').run P w = .ok cs.toArray w := hf
  have e : Nat.min sl dl = min sl dl := rfl
  simp [Builtin.copy_, run_underlying ht, sizeOf, typeInfo, hi, hl, hf', hrun, goInt, e]

/-- Cells of an open block are turned. -/
theorem put_open (hs : Sim ρ V w) {i off : Nat} {c cs cs' : List Value} {e : TypeId} {sz : Nat} {s : Slot} (hV : V i = some (.opn c e sz)) (hi : ρ i = some s) (hgo : s.gone = false) (hl : LRel ρ cs cs') (hfit : off + cs.length ≤ c.length) (hone : cs.all Value.oneCell' = true) :
    ∃ w', (storeCells ⟨s.blk, s.base + off, none⟩ cs').run P w = .ok () w' ∧ Sim ρ (over V [(i, some (.opn (splice c off cs) e sz))]) w' ∧ Keep ρ V w ρ (over V [(i, some (.opn (splice c off cs) e sz))]) w' := by
  obtain ⟨o', g2, g3⟩ := hs.at_ hV hi hgo
  cases g3 with
  | @opn _ c1 c2 c' k _ _ hcap3 hb0 hl2 hcc hk hz' fr hfr =>
  have hlc := hl2.1
  have hll := hl.1
  have hcl : c'.size = c1.length + c2.length := by have := congrArg List.length hcc; simpa using this
  obtain ⟨w', hrun, hwr, hw'⟩ := run_storeCells (P := P) (off := off) (fr := fr) cs' 0 w c' g2 (by omega) (lrel_one hl hone) (by
    intro j h1 h2 ⟨h3, h4⟩
    rcases hfr with h | h <;> omega)
  rw [Nat.add_zero] at hw'
  have hor : ORel ρ s (.opn (splice c off cs) e sz) (.cells (splice c'.toList off cs').toArray e fr) := by
    refine .opn (c1 := splice c1 off cs') (c2 := c2) (k := k) e hcap3 hb0 (lrel_splice hl2 hl _) ?_ ?_ hz' fr ?_
    · show splice c'.toList off cs' = _
      rw [hcc]
      unfold splice
      rw [List.take_append_of_le_length (by omega), List.drop_append_of_le_length (by omega)]
      simp
    · rw [List.size_toArray, splice_length _ _ _ (by simp only [Array.length_toList]; omega)]; simpa using hk
    · rw [List.size_toArray, splice_length _ _ _ (by simp only [Array.length_toList]; omega)]; simpa using hfr
  obtain ⟨q1, q2⟩ := sim_put hs hV rfl rfl hi hgo hwr hw' hor
  rw [hb0, Nat.zero_add, over_cons, over_nil]
  exact ⟨w', hrun, q1, q2⟩

theorem over_void {i off : Nat} {c cs : List Value} {e : TypeId} {sz : Nat} (hV : V i = some (.opn c e sz)) (hc : c = []) (ho : off = 0) (hcs : cs = []) : over V [(i, some (.opn (splice c off cs) e sz))] = V := by
  subst hc; subst ho; subst hcs
  rw [over_cons, over_nil]
  funext j
  simp only [upd]
  split
  · rename_i hj; subst hj; rw [hV]; simp [splice]
  · rfl

/-- A slice of an open block: it lies there, or is nothing. -/
theorem open_or (hs : Sim ρ V w) {i off m cap : Nat} {c : List Value} {e : TypeId} {sz : Nat} {x' : Value} (hV : V i = some (.opn c e sz)) (hx : VRel ρ (.slice (some ⟨i, off, none⟩) m cap) x') :
    (∃ s cc, ρ i = some s ∧ s.gone = false ∧ x' = .slice (some ⟨s.blk, s.base + off, none⟩) m cc) ∨ (c = [] ∧ off = 0 ∧ m = 0 ∧ (x' = .slice none 0 0 ∨ ∃ a, x' = .slice (some a) 0 0)) := by
  obtain ⟨s, h1, hat⟩ := hs.has i _ hV
  have hv : s.gone = true → c = [] ∧ s.thin = true := by
    intro hg
    rcases hat with ⟨_, hv, h | h⟩ | ⟨hg', _⟩
    · cases h
    · cases c with
      | nil => exact ⟨rfl, h⟩
      | cons => cases hv
    · rw [hg] at hg'; cases hg'
  cases hx with
  | slice hi hc => rw [h1] at hi; cases hi; exact .inl ⟨s, _, h1, gone_none hc, rfl⟩
  | oslice hi hc hz he hn => rw [h1] at hi; cases hi; exact .inl ⟨s, _, h1, gone_pos hc hz, rfl⟩
  | ghost hi hc => rw [h1] at hi; cases hi; exact .inr ⟨(hv (gone_zero hc)).1, rfl, rfl, .inl rfl⟩
  | hollow hi hc =>
    rw [h1] at hi; cases hi
    obtain rfl := thin_cap hc (hv (gone_zero hc)).2
    exact .inr ⟨(hv (gone_zero hc)).1, rfl, rfl, .inr ⟨_, rfl⟩⟩

theorem evCopy_ok (hτ : TyOk P τ) (hs : Sim ρ V w) {t ty u : Nat} {s s' x x' : Value} {r : Res} (hx1 : VRel ρ s s') (hx : VRel ρ x x') (h : evCopy τ V t s x = some r) : ValOk P (Builtin.copy_ #[t, u] ty #[s', x']) ρ V w n r := by
  unfold evCopy at h
  split at h
  case h_1 => cases h
  rename_i ti ht
  split at h
  case h_2 => cases h
  rename_i e hd
  split at h
  case h_1 => cases h
  rename_i te he
  split at h
  case h_2 => cases h
  rename_i i off dl cp sl hsl
  split at h
  case h_2 => cases h
  rename_i cs rs c e' sz hfst hV
  split at h
  case isFalse => cases h
  rename_i hcond
  cases h
  have hu : P.underlying t = some (.slice e) := by rw [hτ.under t ti ht, hd]
  obtain ⟨f, hf, hfs, hfb, hfz⟩ := hτ.info e te he
  obtain ⟨cs', hl, hrun⟩ := first_of (P := P) hs hx hfst
  rw [← hfs] at hrun
  rcases open_or hs hV hx1 with ⟨sl', cc, hi, hgo, rfl⟩ | ⟨rfl, rfl, rfl, hx2⟩
  · obtain ⟨w', h1, h2, h3⟩ := put_open (P := P) hs hV hi hgo hl hcond.1 hcond.2
    exact ⟨_, w', ρ, run_copy hu hf (lenV_ok hx hsl) hrun h1, .int _ _, h2, h3, fun _ _ => rfl⟩
  · have hcs : cs = [] := List.length_eq_zero_iff.1 (by have := hcond.1; simp only [List.length_nil, Nat.zero_add] at this; omega)
    have hcs' : cs' = [] := List.length_eq_zero_iff.1 (by rw [← hl.1, hcs]; rfl)
    subst hcs'
    have hov := over_void hV rfl rfl hcs
    rw [Nat.min_zero] at hrun ⊢
    refine ⟨.int .i64 (0 : Nat), w, ρ, ?_, .int _ _, by rw [hov]; exact hs, by rw [hov]; exact .refl _ _ _, fun _ _ => rfl⟩
    have hlx := lenV_ok (P := P) (w := w) hx hsl
    have hmin : Nat.min sl 0 = 0 := Nat.min_zero sl
    rcases hx2 with rfl | ⟨a, rfl⟩
    · simp [Builtin.copy_, run_underlying hu, sizeOf, typeInfo, hf, hlx, hmin, hrun, goInt]
    · simp [Builtin.copy_, run_underlying hu, sizeOf, typeInfo, hf, hlx, hmin, hrun, goInt, storeCells]

theorem evClear_ok (hτ : TyOk P τ) (hzs : ∀ t ti, τ t = some ti → ti.zero.cells.size = ti.size) (hs : Sim ρ V w) {t ty : Nat} {x x' : Value} {r : Res} (hx : VRel ρ x x') (h : evClear τ V t x = some r) : ValOk P (Builtin.clear_ #[t] ty #[x']) ρ V w n r := by
  unfold evClear at h
  split at h
  case h_1 => cases h
  rename_i ti ht
  split at h
  case h_2 => cases h
  rename_i e hd
  split at h
  case h_2 => cases h
  rename_i te i off m cp he
  split at h
  case h_2 => cases h
  rename_i c e' sz hV
  split at h
  case isFalse => cases h
  rename_i hcond
  cases h
  have hu : P.underlying t = some (.slice e) := by rw [hτ.under t ti ht, hd]
  obtain ⟨f, hf, hfs, hfb, hfz⟩ := hτ.info e te he
  have hz0 := hzs e te he
  have hzl : (zeros te.zero.cells.toList m).length = m * te.size := by rw [zeros_length, Array.length_toList, hz0]
  have hone : (zeros te.zero.cells.toList m).all Value.oneCell' = true := by
    have : ∀ k, (zeros te.zero.cells.toList k).all Value.oneCell' = true := by
      intro k
      induction k with
      | zero => rfl
      | succ k ih => simp only [zeros, List.all_append, hcond.2, ih, Bool.and_self]
    exact this m
  have hl := lrel_zeros (vrel_cells (hτ.zero e te he ρ)) m
  have hzc : (Builtin.zeroCells te.zero.cells m).toList = zeros te.zero.cells.toList m := by
    have := zeros_range te.zero.cells m
    unfold Builtin.zeroCells
    rw [this]
  rcases open_or hs hV hx with ⟨sl', cc, hi, hgo, rfl⟩ | ⟨rfl, rfl, rfl, hx2⟩
  · obtain ⟨w', h1, h2, h3⟩ := put_open (P := P) (off := off) hs hV hi hgo hl (by omega) hone
    refine ⟨undef, w', ρ, ?_, vrel_tuple lrel_nil, h2, h3, fun _ _ => rfl⟩
    cases m with
    | zero =>
      simp only [zeros, storeCells, Sem.run_pure, Result.ok.injEq, true_and] at h1
      subst h1
      simp [Builtin.clear_, run_underlying hu]; rfl
    | succ m =>
      simp [Builtin.clear_, run_underlying hu, zeroValue, typeInfo, hf, hfz, hzc, h1]; rfl
  · have hov := over_void (off := 0) hV rfl rfl (show zeros te.zero.cells.toList 0 = [] from rfl)
    refine ⟨undef, w, ρ, ?_, vrel_tuple lrel_nil, by rw [hov]; exact hs, by rw [hov]; exact .refl _ _ _, fun _ _ => rfl⟩
    rcases hx2 with rfl | ⟨a, rfl⟩ <;> (simp [Builtin.clear_, run_underlying hu]; rfl)

theorem evBytes_ok (hτ : TyOk P τ) (hs : Sim ρ V w) {src dst : Nat} {x x' : Value} {r : Res} (hx : VRel ρ x x') (hn : ∀ i, n ≤ i → i < n + r.k → ρ i = none) (h : evBytes τ n src dst x = some r) : ValOk P (convert src dst x') ρ V w n r := by
  unfold evBytes at h
  split at h
  case h_2 => cases h
  rename_i ts td hts htd
  split at h
  case h_2 => cases h
  rename_i e s h1 h2
  split at h
  case h_2 => cases h
  rename_i te hte
  split at h
  case h_2 => cases h
  rename_i h3
  split at h
  case isFalse => cases h
  rename_i hsz
  cases h
  cases hx
  have hs1 : P.underlying src = some .string := by rw [hτ.under _ _ hts, h1]
  have hd1 : P.underlying dst = some (.slice e) := by rw [hτ.under _ _ htd, h2]
  have he1 : P.underlying e = some (.int .u8) := by rw [hτ.under _ _ hte, h3]
  have hrun := run_bytes_of_string (P := P) w src dst e s hs1 hd1 he1
  have hrow : bytesRow s (grownCap w s.size 0 e) = (u8s s).toArray ++ Array.replicate (grownCap w s.size 0 e - s.size) (.int .u8 0) := by
    unfold bytesRow u8s
    apply Array.ext'; simp
  have hge : s.size ≤ grownCap w s.size 0 e := grownCap_ge _ _ _ _
  have hul : (u8s s).length = s.size := by simp [u8s]
  refine ValOk.new (cap := some (grownCap w s.size 0 e, 1)) (w' := w.drew.alloc (.cells (bytesRow s (grownCap w s.size 0 e)) e ((bytesRow s (grownCap w s.size 0 e)).size, (bytesRow s (grownCap w s.size 0 e)).size + 1))) hs (hn n (Nat.le_refl _) (by simp)) (gone_pos rfl (by omega)) ⟨rfl, rfl, rfl, rfl⟩ hrun ?_ ?_
  · refine .opn (c1 := u8s s) (c2 := (Array.replicate (grownCap w s.size 0 e - s.size) (Value.int .u8 0)).toList) (k := grownCap w s.size 0 e) e rfl rfl (lrel_u8s s) (by rw [hrow]; simp) ?_ (by omega) _ (.inl ⟨Nat.le_refl _, rfl⟩)
    rw [hrow]; simp [hul]; omega
  · have := VRel.oslice (ρ := extR ρ n ⟨w.heap.size, some (grownCap w s.size 0 e, 1), 0⟩) (i := n) (off := 0) (n := s.size) (e := 0) (k := grownCap w s.size 0 e) (sz := 1) (s := ⟨w.heap.size, some (grownCap w s.size 0 e, 1), 0⟩) (extR_self _ _ _) rfl (by omega) (by simp) (by omega)
    simpa using this

end
end Go.Proofs.YtcjfidfealifhaaGreat.Vm

/- All operations but calls of functions, as one function; and in a row. No program in it. -/
set_option linter.unusedVariables false
set_option linter.unusedSimpArgs false
namespace Go.Proofs.YtcjfidfealifhaaGreat.Vm
open Go

/-- Names that a value leads to at once. -/
def at_ : Value → List Nat
  | .pointer (some a) => [a.block]
  | .slice (some a) _ _ => [a.block]
  | .map (some i) => [i]
  | _ => []

def evNil (x : Value) : Option Value :=
  match x with
  | .pointer (some a) => some (.pointer (some a))
  | .func (.func f) a b => some (.func (.func f) a b)
  | .slice a b c => some (.slice a b c)
  | _ => none

def isLit : Operand → Bool
  | .const _ => true
  | _ => false

def rds (env : List (Nat × Value)) (xs : List Operand) : Option (List Value) :=
  match xs with
  | [] => some []
  | x :: r => match rd env x, rds env r with
    | some v, some vs => some (v :: vs)
    | _, _ => none

def evOp (τ : Nat → Option TI) (env : List (Nat × Value)) (V : Heap) (n : Nat) : Op → Option Res
  | .move x => (rd env x).map rv
  | .assign x => (rd env x).map rv
  | .pick c a b => match rd env c with
    | some (.bool true) => (rd env a).map rv
    | some (.bool false) => (rd env b).map rv
    | _ => none
  | .alloc t => (τ t).map fun ti => ⟨.pointer (some ⟨n, 0, none⟩), [(n, some (.cells ti.zero.cells.toList t (0, 0)))], 1, []⟩
  | .box t x => (rd env x).map fun v => ⟨.pointer (some ⟨n, 0, none⟩), [(n, some (.cells v.cells.toList t (0, 0)))], 1, []⟩
  | .build t ps => (evBuild τ t (ps.toList.map fun p => (p.1, rd env p.2))).map rv
  | .buildSlice t len ps => evBuildSlice τ n t len (ps.toList.map fun p => (p.1, rd env p.2))
  | .load t a => (rd env a).bind fun x => (evLoad τ V t x).map fun v => ⟨v, [], 0, at_ x⟩
  | .store t a x => match rd env a, rd env x with
    | some p, some v => evStore τ V t p v
    | _, _ => none
  | .nilCheck x => ((rd env x).bind evNil).map rv
  | .binOp op t x y _ => match rd env x, rd env y with
    | some a, some b => (evBin τ op t (isLit x || isLit y) a b).map rv
    | _, _ => none
  | .unOp op _ x => ((rd env x).bind (evUn op)).map rv
  | .convert s d x => (rd env x).bind fun v => match evConvert τ V s d v with
    | some r => some r
    | none => evBytes τ n s d v
  | .makeInterface t x => match τ t with
    | some ti => (match ti.desc with
      | .interface _ => none
      | _ => (rd env x).map fun v => rv (.iface t v))
    | none => none
  | .makeFunc (.func f) a b => match rds env a.toList, rds env b.toList with
    | some va, some vb => some (rv (.func (.func f) va.toArray vb.toArray))
    | _, _ => none
  | .makeMap _ none => some ⟨.map (some n), [(n, some (.map [] 0))], 1, []⟩
  | .slice t x lo hi none => (rd env x).bind fun v => evSlice τ V t v (lo.map (rd env)) (hi.map (rd env))
  | .fieldAddr t x f => ((rd env x).bind (evFieldAddr τ t f)).map rv
  | .field t x f => ((rd env x).bind (evField τ t f)).map rv
  | .indexAddr t x ix => match rd env x, rd env ix with
    | some a, some b => (evIndexAddr τ t a b).map rv
    | _, _ => none
  | .index t x ix => match rd env x, rd env ix with
    | some a, some b => (evIndex τ t a b).map rv
    | _, _ => none
  | .typeAssert x _ a ok => ((rd env x).bind fun v => evAssert τ v a ok).map rv
  | .extract x i => ((rd env x).bind fun v => evExtract v i).map rv
  | .call c => match c.callee with
    | .builtin .len => match c.args.toList.map (rd env), c.argTypes.toList with
      | [some x], [t] => evLen τ V t x
      | _, _ => none
    | .builtin .min => ((rds env c.args.toList).bind evMin).map rv
    | .builtin .max => ((rds env c.args.toList).bind evMax).map rv
    | .builtin .append => match c.args.toList.map (rd env), c.argTypes.toList with
      | [some s, some x], [t, u] => if u = t then evAppend τ V n t s x else none
      | _, _ => none
    | .builtin .copy => match c.args.toList.map (rd env), c.argTypes.toList with
      | [some s, some x], [t, _] => evCopy τ V t s x
      | _, _ => none
    | .builtin .clear => match c.args.toList.map (rd env), c.argTypes.toList with
      | [some x], [t] => evClear τ V t x
      | _, _ => none
    | _ => none
  | .lookup t x ix ok => match rd env x, rd env ix with
    | some a, some b => evLookup τ V t a b ok
    | _, _ => none
  | .mapEntry t m k => match rd env m, rd env k with
    | some a, some b => evMapEntry τ V t a b
    | _, _ => none
  | .makeSlice t l c => match rd env l, rd env c with
    | some a, some b => evMakeSlice τ n t a b
    | _, _ => none
  | .entryStore _ m s x => match rd env m, rd env s, rd env x with
    | some a, some b, some c => evEntryStore V a b c
    | _, _, _ => none
  | _ => none

section
variable {P : Program} {τ : Nat → Option TI} {ρ : Ren} {V : Heap} {w : World} {n : Nat}

/-- Operands, as the run has them. -/
def Rd (ρ : Ren) (env : List (Nat × Value)) (e : Operand → Value) : Prop := ∀ x v, rd env x = some v → VRel ρ v (e x)

theorem rds_ok {env : List (Nat × Value)} {e : Operand → Value} (hr : Rd ρ env e) : ∀ {xs : List Operand} {vs : List Value}, rds env xs = some vs → LRel ρ vs (xs.map e)
  | [], vs, h => by cases h; exact lrel_nil
  | x :: xs, vs, h => by
    simp only [rds] at h
    split at h
    case h_2 => cases h
    rename_i v r h1 h2
    cases h
    exact lrel_cons (hr x v h1) (rds_ok hr h2)

theorem parts_ok {env : List (Nat × Value)} {e : Operand → Value} (hr : Rd ρ env e) (ps : Array (Nat × Operand)) :
    (ps.toList.map fun p => (p.1, rd env p.2)).length = (ps.toList.map fun p => (p.1, e p.2)).length ∧
    ∀ (i : Nat) p q, (ps.toList.map fun p => (p.1, rd env p.2))[i]? = some p → (ps.toList.map fun p => (p.1, e p.2))[i]? = some q → p.1 = q.1 ∧ ∀ v, p.2 = some v → VRel ρ v q.2 := by
  refine ⟨by simp, fun i p q h1 h2 => ?_⟩
  simp only [List.getElem?_map, Option.map_eq_some_iff] at h1 h2
  obtain ⟨x, hx, rfl⟩ := h1
  obtain ⟨y, hy, rfl⟩ := h2
  rw [hx] at hy; cases hy
  exact ⟨rfl, fun v hv => hr _ v hv⟩

theorem sub_ok {env : List (Nat × Value)} {e : Operand → Value} (hr : Rd ρ env e) (x : Option Operand) :
    (∀ o, x.map (rd env) = some o → ∃ y, x.map e = some y ∧ ∀ v, o = some v → VRel ρ v y) ∧ (x.map (rd env) = none → x.map e = none) := by
  cases x with
  | none => exact ⟨fun o h => (by cases h), fun _ => rfl⟩
  | some x => exact ⟨fun o h => ⟨_, rfl, fun v hv => by simp only [Option.map_some, Option.some.injEq] at h; subst h; exact hr _ _ hv⟩, fun h => (by cases h)⟩

def plainEq : Value → Value → Bool
  | .int _ _, .int _ _ | .string _, .string _ | .float _ _, .float _ _ | .complex _ _ _, .complex _ _ _ => false
  | _, _ => true

theorem binOp_eql (t : Nat) (x y : Value) (h : plainEq x y = true) : binOp .eql t x y = (do pure (.bool (← Op.equal t x y))) := by
  cases x <;> cases y <;> first | rfl | cases h
theorem binOp_neq (t : Nat) (x y : Value) (h : plainEq x y = true) : binOp .neq t x y = (do pure (.bool (!(← Op.equal t x y)))) := by
  cases x <;> cases y <;> first | rfl | cases h

theorem plainEq_rel {a b a' b' : Value} (ha : VRel ρ a a') (hb : VRel ρ b b') (h : plainEq a b = true) : plainEq a' b' = true := by
  cases ha <;> cases hb <;> first | rfl | cases h

theorem guard_ok {op : BinOp} {t : Nat} {x y : Operand} {a' b' : Value} (h1 : bothNil a' b' = true → (isLit x || isLit y) = true)
    (h2 : ∀ c d, a' = .agg c → b' = .agg d → P.eqGuardType P.depth t = false) : (eqGuard op t x y a' b').run P w = .ok () w := by
  have e : ((x matches .const _) || (y matches .const _)) = (isLit x || isLit y) := by cases x <;> cases y <;> rfl
  cases op <;> first | rfl | skip
  all_goals (cases a' <;> cases b' <;> first | rfl | skip)
  all_goals first
    | (have q := h1 rfl; clear h1 h2 e; cases x <;> cases y <;> first | rfl | (cases q; done))
    | (have q := h2 _ _ rfl rfl; simp [eqGuard, q])

theorem isIface_ok (hτ : TyOk P τ) {t : Nat} (h : isIface τ t = true) : (Op.equal t .nilIface .nilIface).run P w = .ok true w := by
  unfold isIface at h
  split at h
  · rename_i ti ht
    split at h
    · rename_i hd
      have e : ∀ d, (Op.equalIn (d + 1) t .nilIface .nilIface).run P w = .ok true w := by
        intro d
        simp only [Op.equalIn, Sem.run_bind, run_underlying' hτ ht, hd, Result.andThen_ok, Sem.run_pure]
      exact e 9999
    · cases h
  · cases h

theorem evEq_agg {d t : Nat} {c e : Array Value} {b : Bool} (h : evEq τ (d + 1) t (.agg c) (.agg e) = some b) : ∃ ti, τ t = some ti ∧ ti.eqOk = true := by
  simp only [evEq] at h
  split at h
  case h_1 => cases h
  rename_i ti ht
  refine ⟨ti, ht, ?_⟩
  split at h <;> first | (rename_i h1 h2 h3; cases h2; done) | (rename_i h1 h2; cases h2; done) | skip
  all_goals first
    | (split at h
       · assumption
       · cases h)
    | cases h
    | (simp_all; done)

theorem evBin_ok (hτ : TyOk P τ) {op : BinOp} {t : Nat} {x y : Operand} {a b a' b' v : Value} (ha : VRel ρ a a') (hb : VRel ρ b b') (h : evBin τ op t (isLit x || isLit y) a b = some v) :
    (do eqGuard op t x y a' b'; binOp op t a' b' : Sem Value).run P w = .ok v w ∧ VRel ρ v v := by
  have hg : bothNil a b = bothNil a' b' := by cases ha <;> cases hb <;> rfl
  have hcmp : ∀ (e : Bool), bothNil a b = false → plainEq a b = true → evEq τ 50 t a b = some e →
      (eqGuard op t x y a' b').run P w = .ok () w ∧ (Op.equal t a' b').run P w = .ok e w ∧ plainEq a' b' = true := by
    intro e hn hp he
    refine ⟨guard_ok (fun q => by rw [← hg, hn] at q; cases q) (fun c d hc hd => ?_), ?_, plainEq_rel ha hb hp⟩
    · subst hc; subst hd
      cases ha; cases hb
      obtain ⟨ti, ht, hok⟩ := evEq_agg (d := 49) he
      exact (hτ.eqOk t ti ht hok).2
    · exact evEq_ok hτ 50 9950 t a b a' b' e ha hb he
  unfold evBin at h
  split at h
  · split at h
    · cases h
    · rename_i hb0
      cases h; cases ha; cases hb
      refine ⟨?_, .int _ _⟩
      rw [Sem.run_bind, guard_ok (fun q => by cases q) (fun c d hc hd => by cases hc)]
      simp [binOp, Op.shift, hb0]
  · split at h
    · cases h
    · rename_i hb0
      cases h; cases ha; cases hb
      refine ⟨?_, .int _ _⟩
      rw [Sem.run_bind, guard_ok (fun q => by cases q) (fun c d hc hd => by cases hc)]
      simp [binOp, Op.shift, hb0]
  · split at h
    · rename_i hk; subst hk
      cases ha; cases hb
      obtain ⟨h1, h2⟩ := evInt_ok (P := P) (ρ := ρ) (w := w) h
      refine ⟨?_, h2⟩
      rw [Sem.run_bind, guard_ok (fun q => by cases q) (fun c d hc hd => by cases hc)]
      simp only [Result.andThen_ok]
      cases op <;> first | (simpa [binOp] using h1) | (simp [evInt] at h; done)
    · cases h
  · cases ha; cases hb
    obtain ⟨h1, h2⟩ := evStr_ok (P := P) (ρ := ρ) (w := w) h
    refine ⟨?_, h2⟩
    rw [Sem.run_bind, guard_ok (fun q => by cases q) (fun c d hc hd => by cases hc)]
    simp only [Result.andThen_ok]
    cases op <;> first | (simpa [binOp] using h1) | (simp [evStr] at h; done)
  · rename_i hni hns
    split at h
    · rename_i hbn
      split at h
      · rename_i hlit
        cases h
        have hx : a' = .nilIface ∧ b' = .nilIface := by rw [hg] at hbn; cases ha <;> cases hb <;> first | exact ⟨rfl, rfl⟩ | cases hbn
        obtain ⟨rfl, rfl⟩ := hx
        refine ⟨?_, .bool _⟩
        simp only [Bool.and_eq_true] at hlit
        rw [Sem.run_bind, guard_ok (fun _ => hlit.1) (fun c d hc hd => by cases hc)]
        have := isIface_ok (w := w) hτ hlit.2
        simp [binOp, this]
      · cases h
    · rename_i hbn
      simp only [Option.map_eq_some_iff] at h
      obtain ⟨e, he, rfl⟩ := h
      obtain ⟨h1, h2, h3⟩ := hcmp e (by simpa using hbn) (by cases a <;> cases b <;> first | rfl | (exact (hni _ _ _ _ rfl rfl).elim) | (exact (hns _ _ rfl rfl).elim) | cases ha) he
      exact ⟨by rw [binOp_eql _ _ _ h3]; simp [h1, h2], .bool _⟩
  · rename_i hni hns
    split at h
    · rename_i hbn
      split at h
      · rename_i hlit
        cases h
        have hx : a' = .nilIface ∧ b' = .nilIface := by rw [hg] at hbn; cases ha <;> cases hb <;> first | exact ⟨rfl, rfl⟩ | cases hbn
        obtain ⟨rfl, rfl⟩ := hx
        refine ⟨?_, .bool _⟩
        simp only [Bool.and_eq_true] at hlit
        rw [Sem.run_bind, guard_ok (fun _ => hlit.1) (fun c d hc hd => by cases hc)]
        have := isIface_ok (w := w) hτ hlit.2
        simp [binOp, this]
      · cases h
    · rename_i hbn
      simp only [Option.map_eq_some_iff] at h
      obtain ⟨e, he, rfl⟩ := h
      obtain ⟨h1, h2, h3⟩ := hcmp e (by simpa using hbn) (by cases a <;> cases b <;> first | rfl | (exact (hni _ _ _ _ rfl rfl).elim) | (exact (hns _ _ rfl rfl).elim) | cases ha) he
      exact ⟨by rw [binOp_neq _ _ _ h3]; simp [h1, h2], .bool _⟩
  · cases h

end
end Go.Proofs.YtcjfidfealifhaaGreat.Vm

/- That each operation does as its function tells. No program in it. -/
set_option linter.unusedVariables false
set_option linter.unusedSimpArgs false
namespace Go.Proofs.YtcjfidfealifhaaGreat.Vm
open Go
section
variable {P : Program} {τ : Nat → Option TI} {ρ : Ren} {V : Heap} {w : World} {n : Nat}

theorem evNil_ok {e : Operand → Value} {o : Oper} {x : Operand} {u v : Value} (ho : o.op = .nilCheck x) (hx : VRel ρ u (e x)) (h : evNil u = some v) :
    (execOp e o).run P w = .ok (.value (e x)) w ∧ VRel ρ v (e x) := by
  generalize hx' : e x = x' at hx
  unfold evNil at h
  split at h
  · cases h; cases hx with | ptr h1 h2 => exact ⟨by simp [execOp, ho, hx'], .ptr h1 h2⟩
  · cases h; cases hx with | func a b c d => exact ⟨by simp [execOp, ho, hx'], .func a b c d⟩
  · cases h
    cases hx with
    | nilSlice => exact ⟨by simp [execOp, ho, hx'], .nilSlice⟩
    | slice a b => exact ⟨by simp [execOp, ho, hx'], .slice a b⟩
    | oslice a b c d e => exact ⟨by simp [execOp, ho, hx'], .oslice a b c d e⟩
    | ghost a b => exact ⟨by simp [execOp, ho, hx'], .ghost a b⟩
    | hollow a b => exact ⟨by simp [execOp, ho, hx'], .hollow a b⟩
  · cases h

theorem evLen_ok (hτ : TyOk P τ) (hs : Sim ρ V w) {t : Nat} {x x' : Value} {r : Res} {u : Nat} (hx : VRel ρ x x') (h : evLen τ V t x = some r) : ValOk P (Builtin.len_ #[t] u #[x']) ρ V w n r := by
  unfold evLen at h
  split at h
  case h_1 => cases h
  rename_i ti ht
  split at h
  · rename_i hd; cases h; cases hx; exact .quiet hs (by simp [Builtin.len_, run_underlying' hτ ht, hd, goInt]) (.int _ _)
  · rename_i hd; cases h
    refine .quiet hs (v' := .int .i64 _) ?_ (.int _ _)
    cases hx <;> simp [Builtin.len_, run_underlying' hτ ht, hd, goInt]
  · rename_i hd; cases h; cases hx; exact .quiet hs (by simp [Builtin.len_, run_underlying' hτ ht, hd, goInt]) (.int _ _)
  · rename_i i hd
    split at h
    case h_2 => cases h
    rename_i es _ hV
    cases h
    cases hx with
    | map hi hgo =>
    obtain ⟨o', h2, h3⟩ := hs.at_ hV hi hgo
    cases h3 with
    | map _ hk hv _ =>
    have hlen := hk.1
    simp only [List.length_map, Array.length_toList] at hlen
    refine .quiet hs (v' := .int .i64 es.length) ?_ (.int _ _)
    simp [Builtin.len_, run_underlying' hτ ht, hd, goInt, getObj, Sem.run, h2, ← hlen]
  · rename_i m _ hd; cases h
    refine .quiet hs (v' := .int .i64 m) ?_ (.int _ _)
    simp [Builtin.len_, run_underlying' hτ ht, hd, goInt]
  · cases h

theorem lrel_three {a b c : Value} {l : List Value} (h : LRel ρ [a, b, c] l) : ∃ a' b' c', l = [a', b', c'] ∧ VRel ρ a a' ∧ VRel ρ b b' ∧ VRel ρ c c' := by
  have hl := h.1
  match l, hl with
  | [a', b', c'], _ => exact ⟨a', b', c', rfl, h.2 0 _ _ rfl rfl, h.2 1 _ _ rfl rfl, h.2 2 _ _ rfl rfl⟩
theorem lrel_two {a b : Value} {l : List Value} (h : LRel ρ [a, b] l) : ∃ a' b', l = [a', b'] ∧ VRel ρ a a' ∧ VRel ρ b b' := by
  have hl := h.1
  match l, hl with
  | [a', b'], _ => exact ⟨a', b', rfl, h.2 0 _ _ rfl rfl, h.2 1 _ _ rfl rfl⟩

theorem evMin_ok {xs : List Value} {xs' : List Value} {v : Value} {t : Array TypeId} {u : Nat} (hx : LRel ρ xs xs') (h : evMin xs = some v) : (Builtin.min_ t u xs'.toArray).run P w = .ok v w ∧ VRel ρ v v := by
  unfold evMin at h
  split at h
  · split at h
    · rename_i hk; subst hk; cases h
      obtain ⟨a', b', rfl, ha, hb⟩ := lrel_two hx
      cases ha; cases hb
      exact ⟨by simp [Builtin.min_, Builtin.min2], .int _ _⟩
    · cases h
  · split at h
    · rename_i hk; obtain ⟨rfl, rfl⟩ := hk; cases h
      obtain ⟨a', b', c', rfl, ha, hb, hc⟩ := lrel_three hx
      cases ha; cases hb; cases hc
      exact ⟨by simp [Builtin.min_, Builtin.min2], .int _ _⟩
    · cases h
  · cases h

theorem evMax_ok {xs : List Value} {xs' : List Value} {v : Value} {t : Array TypeId} {u : Nat} (hx : LRel ρ xs xs') (h : evMax xs = some v) : (Builtin.max_ t u xs'.toArray).run P w = .ok v w ∧ VRel ρ v v := by
  unfold evMax at h
  split at h
  · split at h
    · rename_i hk; subst hk; cases h
      obtain ⟨a', b', rfl, ha, hb⟩ := lrel_two hx
      cases ha; cases hb
      exact ⟨by simp [Builtin.max_, Builtin.max2], .int _ _⟩
    · cases h
  · cases h

theorem evUn_ok {op : UnOp} {x x' v : Value} (hx : VRel ρ x x') (h : evUn op x = some v) : (Op.unary op x').run P w = .ok v w ∧ VRel ρ v v := by
  unfold evUn at h
  split at h
  · cases h; cases hx; exact ⟨by simp [Op.unary, Op.intArith], .int _ _⟩
  · cases h; cases hx; exact ⟨by simp [Op.unary], .bool _⟩
  · cases h; cases hx; exact ⟨by simp [Op.unary, intBits_xor], .int _ _⟩
  · cases h

/-- A value's operation, done. -/
theorem vq {x : Sem Value} {v v' : Value} {reads : List Nat} (hs : Sim ρ V w) (h : x.run P w = .ok v' w ∧ VRel ρ v v') : OpOk P (do pure (.value (← x))) ρ V w n ⟨v, [], 0, reads⟩ :=
  (ValOk.quiet hs h.1 h.2).op

theorem evOp_ok (hτ : TyOk P τ) (hzs : ∀ t ti, τ t = some ti → ti.zero.cells.size = ti.size) (hs : Sim ρ V w) {env : List (Nat × Value)} {e : Operand → Value} (hr : Rd ρ env e) {o : Oper} {r : Res}
    (hn : ∀ i, n ≤ i → i < n + r.k → ρ i = none) (h : evOp τ env V n o.op = some r) : OpOk P (execOp e o) ρ V w n r := by
  obtain ⟨dst, op, type, pos, after, guard⟩ := o
  simp only at h
  unfold evOp at h
  split at h
  · -- move
    simp only [Option.map_eq_some_iff] at h
    obtain ⟨v, hv, rfl⟩ := h
    exact .quiet hs rfl (hr _ _ hv)
  · simp only [Option.map_eq_some_iff] at h
    obtain ⟨v, hv, rfl⟩ := h
    exact .quiet hs rfl (hr _ _ hv)
  · -- pick
    rename_i c a b
    split at h
    · rename_i hc
      simp only [Option.map_eq_some_iff] at h
      obtain ⟨v, hv, rfl⟩ := h
      have hc' := hr _ _ hc
      refine .quiet hs (v' := e a) ?_ (hr _ _ hv)
      generalize hx : e c = x at hc'
      cases hc'
      simp [execOp, hx, asBool]
    · rename_i hc
      simp only [Option.map_eq_some_iff] at h
      obtain ⟨v, hv, rfl⟩ := h
      have hc' := hr _ _ hc
      refine .quiet hs (v' := e b) ?_ (hr _ _ hv)
      generalize hx : e c = x at hc'
      cases hc'
      simp [execOp, hx, asBool]
    · cases h
  · -- alloc
    rename_i t
    simp only [Option.map_eq_some_iff] at h
    obtain ⟨ti, ht, rfl⟩ := h
    have := newVar_ok (P := P) hs (hn n (Nat.le_refl _) (by simp)) t (hτ.zero t ti ht ρ)
    have h2 := ValOk.op this
    obtain ⟨v', w', ρ', h3, h4⟩ := h2
    refine ⟨v', w', ρ', ?_, h4⟩
    rcases h3 with h3 | h3
    · refine .inl ?_
      rw [← h3]
      simp [execOp, Instr.alloc, run_zeroValue' hτ ht]
    · exact absurd h3.1 (by simp [newVar, newRow])
  · -- box
    rename_i t x
    simp only [Option.map_eq_some_iff] at h
    obtain ⟨v, hv, rfl⟩ := h
    exact ValOk.op (newVar_ok (P := P) hs (hn n (Nat.le_refl _) (by simp)) t (hr _ _ hv))
  · -- build
    rename_i t ps
    simp only [Option.map_eq_some_iff] at h
    obtain ⟨v, hv, rfl⟩ := h
    obtain ⟨h1, h2⟩ := parts_ok hr ps
    obtain ⟨v', h3, h4⟩ := evBuild_ok (w := w) hτ h1 h2 hv
    have he : (ps.map fun (i, x) => (i, e x)) = (ps.toList.map fun p => (p.1, e p.2)).toArray := by apply Array.ext'; simp
    refine vq hs (v' := v') ⟨?_, h4⟩
    rw [he]; exact h3
  · rename_i t len ps
    obtain ⟨h1, h2⟩ := parts_ok hr ps
    have hk : ρ n = none := hn n (Nat.le_refl _) (by
      unfold evBuildSlice at h
      split at h; · cases h
      split at h
      · split at h
        · split at h
          · simp only [Option.map_eq_some_iff] at h; obtain ⟨c, _, rfl⟩ := h; simp
          · cases h
        · cases h
      · cases h)
    have := evBuildSlice_ok (P := P) hτ hzs hs hk h1 h2 h
    have he : (ps.map fun (i, x) => (i, e x)) = (ps.toList.map fun p => (p.1, e p.2)).toArray := by apply Array.ext'; simp
    have h5 := ValOk.op this
    rw [← he] at h5
    exact h5
  · -- load
    rename_i t a
    simp only [Option.bind_eq_some_iff, Option.map_eq_some_iff] at h
    obtain ⟨x, hx, v, hv, rfl⟩ := h
    obtain ⟨v', h1, h2⟩ := evLoad_ok hτ hs (hr _ _ hx) hv
    exact vq hs ⟨h1, h2⟩
  · -- store
    rename_i t a x
    split at h
    case h_2 => cases h
    rename_i p v hp hv
    exact evStore_ok hτ hs (hr _ _ hp) (hr _ _ hv) h
  · -- nilCheck
    rename_i x
    simp only [Option.bind_eq_some_iff, Option.map_eq_some_iff] at h
    obtain ⟨v, ⟨u, hu, hv⟩, rfl⟩ := h
    obtain ⟨h1, h2⟩ := evNil_ok (P := P) (w := w) (e := e) (o := { dst, op := .nilCheck x, type, pos, after, guard }) rfl (hr _ _ hu) hv
    exact .quiet hs h1 h2
  · -- binOp
    rename_i op t x y _
    split at h
    case h_2 => cases h
    rename_i a b ha hb
    simp only [Option.map_eq_some_iff] at h
    obtain ⟨v, hv, rfl⟩ := h
    exact vq hs (evBin_ok hτ (hr _ _ ha) (hr _ _ hb) hv)
  · -- unOp
    simp only [Option.bind_eq_some_iff, Option.map_eq_some_iff] at h
    obtain ⟨v, ⟨u, hu, hv⟩, rfl⟩ := h
    exact vq hs (evUn_ok (hr _ _ hu) hv)
  · -- convert
    simp only [Option.bind_eq_some_iff] at h
    obtain ⟨u, hu, hv⟩ := h
    split at hv
    · rename_i r' hr'
      cases hv
      exact (evConvert_ok hτ hs (hr _ _ hu) hr').op
    · exact (evBytes_ok hτ hs (hr _ _ hu) hn hv).op
  · -- makeInterface
    rename_i t x
    split at h
    case h_2 => cases h
    rename_i ti ht
    split at h
    · cases h
    · rename_i hni
      simp only [Option.map_eq_some_iff] at h
      obtain ⟨v, hv, rfl⟩ := h
      refine vq hs (v' := .iface t (e x)) ⟨?_, .iface t (hr _ _ hv)⟩
      cases hd : ti.desc <;> first | (exact (hni _ hd).elim) | simp [Instr.makeInterface, run_underlying' hτ ht, hd]
  · -- makeFunc
    rename_i f a b
    split at h
    case h_2 => cases h
    rename_i va vb ha hb
    cases h
    have h1 := rds_ok hr ha
    have h2 := rds_ok hr hb
    refine vq hs (v' := .func (.func f) (a.map e) (b.map e)) ⟨by simp [Instr.makeFunc], ?_⟩
    exact .func (by have := h1.1; simpa using this) (fun i v v' p q => h1.2 i v v' (by simpa using p) (by simpa using q)) (by have := h2.1; simpa using this)
      (fun i v v' p q => h2.2 i v v' (by simpa using p) (by simpa using q))
  · -- makeMap
    rename_i t
    cases h
    have : ValOk P (Instr.makeMap t none) ρ V w n ⟨.map (some n), [(n, some (.map [] 0))], 1, []⟩ :=
      ValOk.new (o' := .map #[] 0) (cap := none) (w' := { w with heap := w.heap.push (.map #[] 0) }) (v' := .map (some w.heap.size)) hs (hn n (Nat.le_refl _) (by simp)) rfl ⟨rfl, rfl, rfl, rfl⟩
        (by simp [Instr.makeMap]) (.map rfl lrel_nil lrel_nil rfl) (.map (extR_self _ _ _))
    exact this.op
  · -- slice
    rename_i t x lo hi
    simp only [Option.bind_eq_some_iff] at h
    obtain ⟨u, hu, hv⟩ := h
    obtain ⟨h1, h2⟩ := sub_ok hr lo
    obtain ⟨h3, h4⟩ := sub_ok hr hi
    exact (evSlice_ok hτ hs (hr _ _ hu) h1 h2 h3 h4 hv).op
  · simp only [Option.bind_eq_some_iff, Option.map_eq_some_iff] at h
    obtain ⟨v, ⟨u, hu, hv⟩, rfl⟩ := h
    obtain ⟨v', h1, h2⟩ := evFieldAddr_ok (w := w) hτ (hr _ _ hu) hv
    exact vq hs ⟨h1, h2⟩
  · simp only [Option.bind_eq_some_iff, Option.map_eq_some_iff] at h
    obtain ⟨v, ⟨u, hu, hv⟩, rfl⟩ := h
    obtain ⟨v', h1, h2⟩ := evField_ok (w := w) hτ (hr _ _ hu) hv
    exact vq hs ⟨h1, h2⟩
  · split at h
    case h_2 => cases h
    rename_i a b ha hb
    simp only [Option.map_eq_some_iff] at h
    obtain ⟨v, hv, rfl⟩ := h
    obtain ⟨v', h1, h2⟩ := evIndexAddr_ok (w := w) hτ (hr _ _ ha) (hr _ _ hb) hv
    exact vq hs ⟨h1, h2⟩
  · split at h
    case h_2 => cases h
    rename_i a b ha hb
    simp only [Option.map_eq_some_iff] at h
    obtain ⟨v, hv, rfl⟩ := h
    obtain ⟨v', h1, h2⟩ := evIndex_ok (w := w) hτ (hr _ _ ha) (hr _ _ hb) hv
    exact vq hs ⟨h1, h2⟩
  · simp only [Option.bind_eq_some_iff, Option.map_eq_some_iff] at h
    obtain ⟨v, ⟨u, hu, hv⟩, rfl⟩ := h
    obtain ⟨v', h1, h2⟩ := evAssert_ok (w := w) hτ (hr _ _ hu) hv
    exact vq hs ⟨h1, h2⟩
  · simp only [Option.bind_eq_some_iff, Option.map_eq_some_iff] at h
    obtain ⟨v, ⟨u, hu, hv⟩, rfl⟩ := h
    obtain ⟨v', h1, h2⟩ := evExtract_ok (w := w) (hr _ _ hu) hv
    exact vq hs ⟨h1, h2⟩
  · -- call
    rename_i c
    obtain ⟨callee, args, argTypes⟩ := c
    simp only at h
    split at h
    · -- len
      rename_i hc
      split at h
      case h_2 => cases h
      rename_i x t hx ht
      obtain ⟨args⟩ := args
      obtain ⟨argTypes⟩ := argTypes
      simp only at hx ht
      subst ht
      obtain ⟨a, rfl⟩ : ∃ a, args = [a] := by
        cases args with
        | nil => simp at hx
        | cons a r => cases r with
          | nil => exact ⟨a, rfl⟩
          | cons b r => simp at hx
      simp only [List.map_cons, List.map_nil, List.cons.injEq, and_true] at hx
      have := (evLen_ok (P := P) (n := n) (u := type) hτ hs (hr _ _ hx) h).op
      obtain ⟨v', w', ρ', h3, h4⟩ := this
      refine ⟨v', w', ρ', ?_, h4⟩
      simpa [execOp, resolve, invoke, builtin] using h3
    · rename_i hc
      simp only [Option.bind_eq_some_iff, Option.map_eq_some_iff] at h
      obtain ⟨v, ⟨u, hu, hv⟩, rfl⟩ := h
      have h1 := rds_ok hr hu
      have h2 := evMin_ok (P := P) (w := w) (t := argTypes) (u := type) h1 hv
      have := vq (n := n) (reads := []) hs h2
      obtain ⟨v', w', ρ', h3, h4⟩ := this
      refine ⟨v', w', ρ', ?_, h4⟩
      have he : args.map e = (args.toList.map e).toArray := by apply Array.ext'; simp
      simpa [execOp, resolve, invoke, builtin, he] using h3
    · rename_i hc
      simp only [Option.bind_eq_some_iff, Option.map_eq_some_iff] at h
      obtain ⟨v, ⟨u, hu, hv⟩, rfl⟩ := h
      have h1 := rds_ok hr hu
      have h2 := evMax_ok (P := P) (w := w) (t := argTypes) (u := type) h1 hv
      have := vq (n := n) (reads := []) hs h2
      obtain ⟨v', w', ρ', h3, h4⟩ := this
      refine ⟨v', w', ρ', ?_, h4⟩
      have he : args.map e = (args.toList.map e).toArray := by apply Array.ext'; simp
      simpa [execOp, resolve, invoke, builtin, he] using h3
    · -- append
      rename_i hc
      split at h
      case h_2 => cases h
      rename_i x y t u hx ht
      split at h
      case isFalse => cases h
      rename_i hut; subst hut
      obtain ⟨args⟩ := args
      obtain ⟨argTypes⟩ := argTypes
      simp only at hx ht
      subst ht
      obtain ⟨a, b, rfl⟩ : ∃ a b, args = [a, b] := by
        have hl := congrArg List.length hx
        simp only [List.length_map, List.length_cons, List.length_nil] at hl
        match args, hl with
        | [a, b], _ => exact ⟨a, b, rfl⟩
      simp only [List.map_cons, List.map_nil, List.cons.injEq, and_true] at hx
      have := (evAppend_ok (P := P) (ty := type) hτ hzs hs (hr _ _ hx.1) (hr _ _ hx.2) hn h).op
      obtain ⟨v', w', ρ', h3, h4⟩ := this
      refine ⟨v', w', ρ', ?_, h4⟩
      simpa [execOp, resolve, invoke, builtin] using h3
    · -- copy
      rename_i hc
      split at h
      case h_2 => cases h
      rename_i x y t u hx ht
      obtain ⟨args⟩ := args
      obtain ⟨argTypes⟩ := argTypes
      simp only at hx ht
      subst ht
      obtain ⟨a, b, rfl⟩ : ∃ a b, args = [a, b] := by
        have hl := congrArg List.length hx
        simp only [List.length_map, List.length_cons, List.length_nil] at hl
        match args, hl with
        | [a, b], _ => exact ⟨a, b, rfl⟩
      simp only [List.map_cons, List.map_nil, List.cons.injEq, and_true] at hx
      have := (evCopy_ok (P := P) (ty := type) (n := n) (u := u) hτ hs (hr _ _ hx.1) (hr _ _ hx.2) h).op
      obtain ⟨v', w', ρ', h3, h4⟩ := this
      refine ⟨v', w', ρ', ?_, h4⟩
      simpa [execOp, resolve, invoke, builtin] using h3
    · -- clear
      rename_i hc
      split at h
      case h_2 => cases h
      rename_i x t hx ht
      obtain ⟨args⟩ := args
      obtain ⟨argTypes⟩ := argTypes
      simp only at hx ht
      subst ht
      obtain ⟨a, rfl⟩ : ∃ a, args = [a] := by
        have hl := congrArg List.length hx
        simp only [List.length_map, List.length_cons, List.length_nil] at hl
        match args, hl with
        | [a], _ => exact ⟨a, rfl⟩
      simp only [List.map_cons, List.map_nil, List.cons.injEq, and_true] at hx
      have := (evClear_ok (P := P) (ty := type) (n := n) hτ hzs hs (hr _ _ hx) h).op
      obtain ⟨v', w', ρ', h3, h4⟩ := this
      refine ⟨v', w', ρ', ?_, h4⟩
      simpa [execOp, resolve, invoke, builtin] using h3
    · cases h
  · split at h
    case h_2 => cases h
    rename_i a b ha hb
    exact (evLookup_ok hτ hs (hr _ _ ha) (hr _ _ hb) h).op
  · split at h
    case h_2 => cases h
    rename_i a b ha hb
    exact (evMapEntry_ok hτ hs (hr _ _ ha) (hr _ _ hb) h).op
  · split at h
    case h_2 => cases h
    rename_i a b ha hb
    exact (evMakeSlice_ok hτ hzs hs (hr _ _ ha) (hr _ _ hb) hn h).op
  · split at h
    case h_2 => cases h
    rename_i a b c ha hb hc
    exact evEntryStore_ok hs (hr _ _ ha) (hr _ _ hb) (hr _ _ hc) h
  · cases h

end
end Go.Proofs.YtcjfidfealifhaaGreat.Vm

/- Operations in a row; a call; a function's body. No program in it. -/
set_option linter.unusedVariables false
set_option linter.unusedSimpArgs false
namespace Go.Proofs.YtcjfidfealifhaaGreat.Vm
open Go

/-- What is known of the types that a proof meets. -/
structure Tab (P : Program) (τ : Nat → Option TI) : Prop where
  ok : TyOk P τ
  zs : ∀ t ti, τ t = some ti → ti.zero.cells.size = ti.size

/-- One type's row. -/
structure One (P : Program) (t : Nat) (i : TI) : Prop where
  under : P.underlying t = some i.desc
  info : (P.info? t).map (fun f => (f.size, f.bytes, f.zero, f.comparable)) = some (i.size, i.bytes, some i.zero, i.cmp)
  zero : ∀ ρ, VRel ρ i.zero i.zero
  eqOk : i.eqOk = true → P.stoodInHeld t = false ∧ P.eqGuardType P.depth t = false
  zs : i.zero.cells.size = i.size

theorem tab_of {P : Program} {τ : Nat → Option TI} (h : ∀ t i, τ t = some i → One P t i) : Tab P τ := by
  have hi : ∀ t i, τ t = some i → ∃ f, P.info? t = some f ∧ f.size = i.size ∧ f.bytes = i.bytes ∧ f.zero = some i.zero ∧ f.comparable = i.cmp := by
    intro t i ht
    obtain ⟨f, hf, he⟩ := Option.map_eq_some_iff.1 (h t i ht).info
    simp only [Prod.mk.injEq] at he
    exact ⟨f, hf, he.1, he.2.1, he.2.2.1, he.2.2.2⟩
  exact ⟨⟨fun t i ht => (h t i ht).under, fun t i ht => let ⟨f, a, b, c, d, _⟩ := hi t i ht; ⟨f, a, b, c, d⟩, fun t i ht => (h t i ht).zero,
    fun t i ht hc => let ⟨f, a, _, _, _, e⟩ := hi t i ht; ⟨f, a, e.trans hc⟩, fun t i ht => (h t i ht).eqOk⟩, fun t i ht => (h t i ht).zs⟩

def VL (P : Program) (m g : Nat) (ops : Array Oper) (Q : Exit → St → Prop) (l : List Oper) (s : St) : Prop :=
  ∀ ρ a w, Rel m g ρ s a w → wpList P ops (Post m g Q ρ s w) l a w

def bindT (dst : Option Nat) (v : Value) (env : List (Nat × Value)) : List (Nat × Value) :=
  match dst with
  | some d => (d, v) :: env
  | none => env

/-- Are the temporaries written within the function's? -/
def fitsT (m : Nat) : Option Nat → Bool
  | some d => decide (d < m)
  | none => true

section
variable {P : Program} {τ : Nat → Option TI} {m g : Nat} {Q : Exit → St → Prop} {s : St} {ops : Array Oper} {l : List Oper} {o : Oper}

theorem rel_rd {ρ : Ren} {a : Act} {w : World} (hr : Rel m g ρ s a w) : Rd ρ s.env a.eval := fun x v h => rd_ok hr h

theorem env_put {ρ : Ren} {a : Act} {w : World} (hr : Rel m g ρ s a w) {ρ' : Ren} (he : Ext ρ ρ') {d : Option Nat} (hd : fitsT m d = true) {v v' : Value} (hv : VRel ρ' v v') : EnvRel ρ' (bindT d v s.env) (a.put d v').tmps := by
  cases d with
  | none => exact fun t u h => let ⟨u', h1, h2⟩ := hr.env t u h; ⟨u', h1, h2.mono he⟩
  | some d =>
    intro t u h
    simp only [bindT, lkp] at h
    have hsz := hr.size
    simp only [fitsT, decide_eq_true_eq] at hd
    split at h
    · rename_i ht; subst ht; cases h
      exact ⟨v', by simp only [Act.put]; rw [Array.getElem?_setIfInBounds, if_pos rfl, if_pos (by omega)], hv⟩
    · rename_i ht
      obtain ⟨u', h1, h2⟩ := hr.env t u h
      exact ⟨u', by simp only [Act.put]; rw [Array.getElem?_setIfInBounds_ne (by omega)]; exact h1, h2.mono he⟩

theorem ext_of {ρ ρ' : Ren} {n k : Nat} (hn : ∀ i, n ≤ i → i < n + k → ρ i = none) (h : ∀ i, ¬ (n ≤ i ∧ i < n + k) → ρ' i = ρ i) : Ext ρ ρ' := by
  intro i t ht
  by_cases hi : n ≤ i ∧ i < n + k
  · rw [hn i hi.1 hi.2] at ht; cases ht
  · rw [h i hi]; exact ht

/-- Behind an operation, or a call. -/
theorem rel_next {ρ ρ' : Ren} {a : Act} {w w' : World} (hr : Rel m g ρ s a w) {d : Option Nat} (hd : fitsT m d = true) {v v' : Value} {L : List (Nat × Option VObj)} {k : Nat} (hv : VRel ρ' v v')
    (hs : Sim ρ' (over s.heap L) w') (hρ : ∀ i, ¬ (s.n ≤ i ∧ i < s.n + k) → ρ' i = ρ i) : Rel m g ρ' ⟨bindT d v s.env, over s.heap L, s.n + k⟩ (a.put d v') w' where
  bd i hi := by simp only at hi; rw [hρ i (by omega)]; exact hr.bd i (by omega)
  old := Nat.le_trans hr.old (Nat.le_add_right _ _)
  sim := hs
  env := env_put hr (ext_of (fun i h1 _ => hr.bd i h1) hρ) hd hv
  size := by cases d <;> simp [Act.put, hr.size]
  defers := by cases d <;> simp [Act.put, hr.defers]

theorem old_same {ρ ρ' : Ren} {a : Act} {w : World} (hr : Rel m g ρ s a w) {k : Nat} (hρ : ∀ i, ¬ (s.n ≤ i ∧ i < s.n + k) → ρ' i = ρ i) : ∀ i, i < g → ρ' i = ρ i :=
  fun i hi => hρ i (by have := hr.old; omega)

theorem post_list {ρ ρ1 : Ren} {s1 : St} {w w1 : World} (k : Keep ρ s.heap w ρ1 s1.heap w1) (e1 : ∀ i, i < g → ρ1 i = ρ i) {a : Act} (h : wpList P ops (Post m g Q ρ1 s1 w1) l a w1) : wpList P ops (Post m g Q ρ s w) l a w1 := by
  suffices H : ∀ (l : List Oper) a w2, wpList P ops (Post m g Q ρ1 s1 w1) l a w2 → wpList P ops (Post m g Q ρ s w) l a w2 from H l a w1 h
  have hp : ∀ e a w2, Post m g Q ρ1 s1 w1 e a w2 → Post m g Q ρ s w e a w2 := fun e a w2 h => post_trans k e1 h
  have hout : LetsOut (Post m g Q ρ1 s1 w1) → LetsOut (Post m g Q ρ s w) := fun ⟨a, w, h⟩ => ⟨a, w, hp _ _ _ h⟩
  intro l
  induction l with
  | nil => exact fun a w2 h => hp _ _ _ h
  | cons o rest ih =>
    intro a w2 h
    simp only [wpList] at h ⊢
    split
    · rename_i hw
      rw [if_pos hw] at h
      refine h.imp (fun h => ?_) (fun ⟨h1, h2⟩ => ⟨h1, hout h2⟩)
      unfold Oper.wp at h ⊢
      generalize (execOp a.eval o).run P w2 = r at *
      cases r with
      | ok n w' =>
        cases n <;> simp only [Oper.upon] at h ⊢ <;> first
          | exact ih _ _ h
          | exact Calls.mono h (fun e w'' he => by cases e <;> first | exact ih _ _ he | exact hp _ _ _ he | exact hout he)
          | exact Rows.mono h (fun _ _ he => ih _ _ he)
      | halt x w' => cases x <;> simp only [Oper.upon] at h ⊢ <;> exact hp _ _ _ h
    · rename_i hw
      rw [if_neg hw] at h
      exact ih _ _ h

theorem vl_nil (h : Q .normal s) : VL P m g ops Q [] s := fun ρ _ w hr => ⟨s, ρ, h, hr, .refl _ _ _, fun _ _ => rfl⟩

theorem vw_region {id : Nat} (h : VL P m g ops Q ops.toList s) : VW P m g (.region id ops false) Q s := fun ρ a w hr => wp_region_list (h ρ a w hr)

/-- Is it done? -/
def Want (ops : Array Oper) (env : List (Nat × Value)) (o : Oper) (b : Bool) : Prop :=
  match o.guard with
  | none => b = true
  | some (j, want) => ∃ d c, (ops[j]?).bind (·.dst) = some d ∧ lkp env d = some (.bool c) ∧ b = (c == want)

theorem want_ok {ρ : Ren} {a : Act} {w : World} (hr : Rel m g ρ s a w) {b : Bool} (h : Want ops s.env o b) : Region.wanted o (yielded ops a.tmps) = b := by
  unfold Want at h
  unfold Region.wanted
  split at h
  · rename_i hg; rw [hg]; exact h.symm
  · rename_i j want hg
    obtain ⟨d, c, h1, h2, rfl⟩ := h
    obtain ⟨v', h3, h4⟩ := hr.env d _ h2
    cases h4
    rw [hg]
    simp only [yielded, h1, Option.bind_some, h3]
    cases c <;> cases want <;> rfl

theorem vl_op (hτ : Tab P τ) {r : Res} (hw : Want ops s.env o true) (hd : fitsT m o.dst = true) (h : evOp τ s.env s.heap s.n o.op = some r)
    (K : VL P m g ops Q l ⟨bindT o.dst r.v s.env, over s.heap r.L, s.n + r.k⟩) : VL P m g ops Q (o :: l) s := by
  intro ρ a w hr
  simp only [wpList]
  rw [if_pos (want_ok hr hw)]
  obtain ⟨v', w', ρ', h1, h2, h3, h4, h5⟩ := evOp_ok hτ.ok hτ.zs hr.sim (rel_rd hr) (fun i h1 _ => hr.bd i h1) h
  have hnext := post_list h4 (old_same hr h5) (K ρ' _ w' (rel_next hr hd h2 h3 h5))
  refine .inl ?_
  unfold Oper.wp
  rcases h1 with h1 | ⟨h1, rfl⟩
  · rw [h1]; exact hnext
  · rw [h1]; exact hnext

/-- An operation that is passed over. -/
theorem vl_skip (hw : Want ops s.env o false) (hd : fitsT m o.dst = true) (K : VL P m g ops Q l ⟨bindT o.dst undef s.env, s.heap, s.n⟩) : VL P m g ops Q (o :: l) s := by
  intro ρ a w hr
  simp only [wpList]
  rw [if_neg (by rw [want_ok hr hw]; simp)]
  have hu : VRel ρ undef undef := vrel_tuple lrel_nil
  exact K ρ _ w (rel_next (L := []) (k := 0) hr hd hu hr.sim (fun _ _ => rfl))

theorem wanted_undef {ρ : Ren} {tmps : Array Value} {j : Nat} {want : Bool} {d : Nat} {v' : Value} (hg : o.guard = some (j, want)) (h1 : (ops[j]?).bind (·.dst) = some d) (h2 : tmps[d]? = some v') (hv : VRel ρ undef v') : Region.wanted o (yielded ops tmps) = false := by
  unfold Region.wanted
  rw [hg]
  simp only [yielded, h1, Option.bind_some, h2]
  cases hv; rfl

/-- One whose test was passed over. -/
theorem vl_skip_undef {j : Nat} {want : Bool} {d : Nat} (hg : o.guard = some (j, want)) (h1 : (ops[j]?).bind (·.dst) = some d) (h2 : lkp s.env d = some undef) (hd : fitsT m o.dst = true) (K : VL P m g ops Q l ⟨bindT o.dst undef s.env, s.heap, s.n⟩) : VL P m g ops Q (o :: l) s := by
  intro ρ a w hr
  simp only [wpList]
  obtain ⟨v', h3, h4⟩ := hr.env d _ h2
  rw [if_neg (by rw [wanted_undef hg h1 h3 h4]; simp)]
  have hu : VRel ρ undef undef := vrel_tuple lrel_nil
  exact K ρ _ w (rel_next (L := []) (k := 0) hr hd hu hr.sim (fun _ _ => rfl))

/-- A test that parts. -/
theorem vl_guard {j : Nat} {want : Bool} {d : Nat} {c : Bool} (hg : o.guard = some (j, want)) (h1 : (ops[j]?).bind (·.dst) = some d) (h2 : lkp s.env d = some (.bool c))
    (ht : c = want → VL P m g ops Q (o :: l) ⟨(d, .bool want) :: s.env, s.heap, s.n⟩) (hf : c = !want → VL P m g ops Q (o :: l) ⟨(d, .bool (!want)) :: s.env, s.heap, s.n⟩) : VL P m g ops Q (o :: l) s := by
  intro ρ a w hr
  have key : ∀ b, c = b → Rel m g ρ ⟨(d, .bool b) :: s.env, s.heap, s.n⟩ a w := by
    rintro b rfl
    refine ⟨hr.bd, hr.old, hr.sim, ?_, hr.size, hr.defers⟩
    intro t u h
    simp only [lkp] at h
    split at h
    · rename_i he; subst he; cases h; exact hr.env _ _ h2
    · exact hr.env t u h
  by_cases hc : c = want
  · exact ht hc ρ a w (key _ hc)
  · have hc' : c = !want := by cases c <;> cases want <;> first | rfl | exact (hc rfl).elim
    exact hf hc' ρ a w (key _ hc')

/-- A function that can be called. -/
def Callable (P : Program) (F : FuncId) : Prop := ∃ fn, P.funcs[F]? = some fn ∧ (fn.name == "runtime.NumGoroutine") = false ∧ fn.body.isNone = false

theorem vl_call {F : FuncId} {f : Operand} {args : Array Operand} {ats : Array TypeId} {va vb vc : List Value} {k : Nat} {R : Value → List (Nat × Option VObj) → Prop} (hw : Want ops s.env o true) (hd : fitsT m o.dst = true)
    (ho : o.op = .call { callee := .value f, args, argTypes := ats }) (hf : rd s.env f = some (.func (.func F) va.toArray vc.toArray)) (ha : rds s.env args.toList = some vb) (hF : Callable P F)
    (T : Tri P F (va ++ vb ++ vc) s.n k s.heap R) (K : ∀ v L, R v L → VL P m g ops Q l ⟨bindT o.dst v s.env, over s.heap L, s.n + k⟩) : VL P m g ops Q (o :: l) s := by
  intro ρ a w hr
  simp only [wpList]
  rw [if_pos (want_ok hr hw)]
  refine .inl ?_
  have h1 := rel_rd hr _ _ hf
  have h2 := rds_ok (rel_rd hr) ha
  generalize hx : a.eval f = x at h1
  cases h1 with
  | @func _ f1 f1' c1 c1' hs1 hv1 hs2 hv2 =>
  obtain ⟨fn, hfn, hn1, hn2⟩ := hF
  have hl1 : LRel ρ va f1'.toList := ⟨by simpa using hs1, fun i v v' p q => hv1 i v v' (by simpa using p) (by simpa using q)⟩
  have hl3 : LRel ρ vc c1'.toList := ⟨by simpa using hs2, fun i v v' p q => hv2 i v v' (by simpa using p) (by simpa using q)⟩
  have hall := lrel_append (lrel_append hl1 h2) hl3
  have hrun : (execOp a.eval o).run P w = .ok (.enter F (f1'.toList ++ args.toList.map a.eval ++ c1'.toList).toArray) w := by
    unfold execOp
    rw [ho]
    have hn1' : ¬ fn.name = "runtime.NumGoroutine" := by simpa using hn1
    have hb : ¬ fn.body = none := by intro e; rw [e] at hn2; cases hn2
    have he : (f1'.toList ++ args.toList.map a.eval ++ c1'.toList).toArray = f1' ++ args.map a.eval ++ c1' := by apply Array.ext'; simp
    simp [resolve, hx, Deferred.ofValue, invoke, callFunc, hfn, hn1', hb, he]
  unfold Oper.wp
  rw [hrun, Oper.upon_enter]
  refine (T ρ w _ (fun i h1 _ => hr.bd i h1) hr.sim hall).mono ?_
  rintro e w' ⟨v, L, v', ρ', hR, rfl, hv, hs, hk, hρ⟩
  exact post_list hk (old_same hr hρ) (K v L hR ρ' _ w' (rel_next hr hd hv hs hρ))

end

/-- What a function hands back. -/
def evResults (τ : Nat → Option TI) (s : St) (rs : List ResultVar) : Option Value :=
  let one : ResultVar → Option Value := fun
    | .tmp t => lkp s.env t
    | .cell a t => (lkp s.env a).bind (evLoad τ s.heap t)
  match rs with
  | [r] => one r
  | rs => (rs.foldr (fun r acc => match one r, acc with | some v, some vs => some (v :: vs) | _, _ => none) (some [])).map fun vs => .tuple vs.toArray

end Go.Proofs.YtcjfidfealifhaaGreat.Vm
