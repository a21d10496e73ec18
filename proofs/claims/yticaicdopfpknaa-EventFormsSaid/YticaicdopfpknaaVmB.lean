/- A small heap of names over a run's world; what a piece of code does to it. No program in it. -/
import Derived.Test.YticaicdopfpknaaVmA
set_option linter.unusedVariables false
set_option linter.unusedSimpArgs false
namespace Go.Proofs.Yticaicdopfpknaa.Vm
open Go

inductive VObj where
  | cells (c : List Value) (elem : TypeId) (fr : Nat × Nat)
  | opn (c : List Value) (elem : TypeId) (sz : Nat)
  | map (es : List (Value × Value × Nat)) (clock : Nat)
  | ro (c : List Value)
  | win (c : List Value) (sz : Nat)
  | emp

/-- Is it an argument's, which nobody writes? -/
def VObj.fixed : VObj → Bool
  | .ro _ => true
  | .win _ _ => true
  | .emp => true
  | _ => false

def VObj.isEmp : VObj → Bool
  | .emp => true
  | _ => false

/-- May it be nothing? -/
def VObj.void : VObj → Bool
  | .opn [] _ _ => true
  | .win [] _ => true
  | .emp => true
  | _ => false

abbrev Heap := Nat → Option VObj

def upd (V : Heap) (i : Nat) (o : Option VObj) : Heap := fun j => if j = i then o else V j

/-- An object of names at a slot, and the run's. -/
inductive ORel (ρ : Ren) (s : Slot) : VObj → Obj → Prop
  | cells {c : List Value} {c' : Array Value} (elem : TypeId) (fr : Nat × Nat) (hs : s.cap = none) (hb : s.base = 0) (h : LRel ρ c c'.toList) : ORel ρ s (.cells c elem fr) (.cells c' elem fr)
  | opn {c c1 c2 : List Value} {c' : Array Value} {k sz : Nat} (elem : TypeId) (hs : s.cap = some (k, sz)) (hb : s.base = 0) (h : LRel ρ c c1) (hc : c'.toList = c1 ++ c2) (hk : c'.size = k * sz) (hz : 0 < sz) (fr : Nat × Nat) (hf : c'.size ≤ fr.1 ∨ fr.2 = 0) : ORel ρ s (.opn c elem sz) (.cells c' elem fr)
  | map {es : List (Value × Value × Nat)} {es' : Array MapEntry} {clock : Nat} (hs : s.cap = none) (hk : LRel ρ (es.map (·.1)) (es'.toList.map (·.key))) (hv : LRel ρ (es.map (·.2.1)) (es'.toList.map (·.val)))
      (hb : es.map (·.2.2) = es'.toList.map (·.born)) : ORel ρ s (.map es clock) (.map es' clock)
  | ro {c : List Value} {c' : Array Value} (elem : TypeId) (fr : Nat × Nat) (hs : s.cap = none) (h : LRel ρ c ((c'.toList.drop s.base).take c.length)) : ORel ρ s (.ro c) (.cells c' elem fr)
  | win {c : List Value} {c' : Array Value} {k sz : Nat} (elem : TypeId) (fr : Nat × Nat) (hs : s.cap = some (k, sz)) (hz : 0 < sz) (h : LRel ρ c ((c'.toList.drop s.base).take c.length)) : ORel ρ s (.win c sz) (.cells c' elem fr)

theorem ORel.mono {ρ ρ' : Ren} (h : Ext ρ ρ') {s : Slot} {o : VObj} {o' : Obj} (hv : ORel ρ s o o') : ORel ρ' s o o' := by
  cases hv with
  | cells e fr hs hb hl => exact .cells e fr hs hb (hl.mono h)
  | opn e hs hb hl hc hk hz fr hf => exact .opn e hs hb (hl.mono h) hc hk hz fr hf
  | map hs hk hv hb => exact .map hs (hk.mono h) (hv.mono h) hb
  | ro e fr hs hl => exact .ro e fr hs (hl.mono h)
  | win e fr hs hz hl => exact .win e fr hs hz (hl.mono h)

/-- Nothing at a slot. -/
structure Void (s : Slot) (o : VObj) : Prop where
  gone : s.gone = true
  void : o.void = true
  thin : o.fixed = true ∨ s.thin = true

/-- An object at a slot, in the world. -/
def At (ρ : Ren) (w : World) (s : Slot) (o : VObj) : Prop := Void s o ∨ (s.gone = false ∧ ∃ o', w.heap[s.blk]? = some o' ∧ ORel ρ s o o')

/-- The small heap lies in the world, each block apart from the others. -/
structure Sim (ρ : Ren) (V : Heap) (w : World) : Prop where
  has : ∀ i o, V i = some o → ∃ s, ρ i = some s ∧ At ρ w s o
  apart : ∀ i j o p s t, i ≠ j → V i = some o → V j = some p → ρ i = some s → ρ j = some t → s.gone = false → t.gone = false → (o.fixed && p.fixed) = false → s.blk ≠ t.blk

theorem At.emp {ρ : Ren} {w : World} {s : Slot} {o : VObj} (h : At ρ w s o) (he : o.isEmp = true) : s.gone = true := by
  rcases h with h | ⟨_, o', _, h⟩
  · exact h.gone
  · cases h <;> cases he

theorem Sim.at_ {ρ : Ren} {V : Heap} {w : World} (h : Sim ρ V w) {i : Nat} {o : VObj} {s : Slot} (hV : V i = some o) (hi : ρ i = some s) (hg : s.gone = false) : ∃ o', w.heap[s.blk]? = some o' ∧ ORel ρ s o o' := by
  obtain ⟨t, h1, h2⟩ := h.has i o hV
  rw [hi] at h1; cases h1
  rcases h2 with ⟨h2, _, _⟩ | ⟨_, h2⟩
  · rw [hg] at h2; cases h2
  · exact h2

theorem Sim.real {ρ : Ren} {V : Heap} {w : World} (h : Sim ρ V w) {i : Nat} {o : VObj} (hV : V i = some o) (hv : o.void = false) : ∃ s o', ρ i = some s ∧ s.gone = false ∧ w.heap[s.blk]? = some o' ∧ ORel ρ s o o' := by
  obtain ⟨t, h1, h2⟩ := h.has i o hV
  rcases h2 with ⟨_, h2, _⟩ | ⟨h3, o', h4, h5⟩
  · rw [hv] at h2; cases h2
  · exact ⟨t, o', h1, h3, h4, h5⟩

theorem At.mono {ρ ρ' : Ren} (h : Ext ρ ρ') {w w' : World} {s : Slot} {o : VObj} (hw : s.gone = false → w'.heap[s.blk]? = w.heap[s.blk]?) (k : At ρ w s o) : At ρ' w' s o := by
  rcases k with k | ⟨k, o', h1, h2⟩
  · exact .inl k
  · exact .inr ⟨k, o', by rw [hw k]; exact h1, h2.mono h⟩

/-- The blocks of a small heap. -/
def Blks (ρ : Ren) (V : Heap) (b : Nat) : Prop := ∃ i o s, V i = some o ∧ o.fixed = false ∧ ρ i = some s ∧ s.gone = false ∧ s.blk = b

/-- What lies beside the small heap is as it was; what came is new, or was of the small heap. -/
structure Keep (ρ : Ren) (V : Heap) (w : World) (ρ' : Ren) (V' : Heap) (w' : World) : Prop where
  os : w'.os = w.os
  tape : w'.tape = w.tape
  output : w'.output = w.output
  size : w.heap.size ≤ w'.heap.size
  block : ∀ b, b < w.heap.size → ¬ Blks ρ V b → w'.heap[b]? = w.heap[b]?
  new : ∀ b, Blks ρ' V' b → Blks ρ V b ∨ w.heap.size ≤ b

theorem Keep.refl (ρ : Ren) (V : Heap) (w : World) : Keep ρ V w ρ V w := ⟨rfl, rfl, rfl, Nat.le_refl _, fun _ _ _ => rfl, fun _ h => .inl h⟩

theorem Keep.trans {ρ ρ1 ρ2 : Ren} {V V1 V2 : Heap} {w w1 w2 : World} (h : Keep ρ V w ρ1 V1 w1) (k : Keep ρ1 V1 w1 ρ2 V2 w2) : Keep ρ V w ρ2 V2 w2 where
  os := k.os.trans h.os
  tape := k.tape.trans h.tape
  output := k.output.trans h.output
  size := Nat.le_trans h.size k.size
  block b hb hn := by
    have h1 : ¬ Blks ρ1 V1 b := fun hb1 => (h.new b hb1).elim hn (fun hl => by omega)
    rw [k.block b (Nat.lt_of_lt_of_le hb h.size) h1, h.block b hb hn]
  new b hb := (k.new b hb).elim (fun h1 => h.new b h1) (fun hl => .inr (Nat.le_trans h.size hl))

/-- Less may be known of the heap. -/
theorem Sim.sub {ρ : Ren} {V V' : Heap} {w : World} (h : Sim ρ V w) (hV : ∀ i o, V' i = some o → V i = some o) : Sim ρ V' w :=
  ⟨fun i o hi => h.has i o (hV i o hi), fun i j o p s t hij hi hj => h.apart i j o p s t hij (hV i o hi) (hV j p hj)⟩

theorem Keep.sub {ρ ρ' : Ren} {V V' V2 : Heap} {w w' : World} (h : Keep ρ V w ρ' V' w') (hV : ∀ i o, V2 i = some o → V' i = some o) : Keep ρ V w ρ' V2 w' :=
  { h with new := fun b ⟨i, o, s, hi, r⟩ => h.new b ⟨i, o, s, hV i o hi, r⟩ }

/-- Nothing but one block was turned. -/
structure Wrote (b : Nat) (w w' : World) : Prop where
  os : w'.os = w.os
  tape : w'.tape = w.tape
  output : w'.output = w.output
  size : w'.heap.size = w.heap.size
  block : ∀ k, k ≠ b → w'.heap[k]? = w.heap[k]?

theorem Wrote.refl (b : Nat) (w : World) : Wrote b w w := ⟨rfl, rfl, rfl, rfl, fun _ _ => rfl⟩
theorem Wrote.trans {b : Nat} {w w1 w2 : World} (h : Wrote b w w1) (k : Wrote b w1 w2) : Wrote b w w2 :=
  ⟨k.os.trans h.os, k.tape.trans h.tape, k.output.trans h.output, k.size.trans h.size, fun i hi => (k.block i hi).trans (h.block i hi)⟩

/-- A name's object is turned. -/
theorem sim_put {ρ : Ren} {V : Heap} {w w' : World} (hs : Sim ρ V w) {i : Nat} {o o1 : VObj} {o' : Obj} {s : Slot} (hg : V i = some o) (hf : o.fixed = false) (hf1 : o1.fixed = false) (hi : ρ i = some s) (hgo : s.gone = false) (hw : Wrote s.blk w w')
    (ho : w'.heap[s.blk]? = some o') (hr : ORel ρ s o1 o') : Sim ρ (upd V i (some o1)) w' ∧ Keep ρ V w ρ (upd V i (some o1)) w' := by
  refine ⟨⟨?_, ?_⟩, hw.os, hw.tape, hw.output, Nat.le_of_eq hw.size.symm, ?_, ?_⟩
  · intro j p hj
    simp only [upd] at hj
    split at hj
    · rename_i he; subst he; cases hj
      exact ⟨s, hi, .inr ⟨hgo, o', ho, hr⟩⟩
    · rename_i he
      obtain ⟨t, ht, hp⟩ := hs.has j p hj
      exact ⟨t, ht, hp.mono (.refl _) fun ht' => hw.block _ (hs.apart j i _ _ _ _ he hj hg ht hi ht' hgo (by simp [hf]))⟩
  · intro j k p q t u hjk hj hk ht hu ht' hu' hfx
    have hx : ∀ x y, upd V i (some o1) x = some y → ∃ q', V x = some q' ∧ q'.fixed = y.fixed := by
      intro x y hxy
      by_cases he : x = i
      · subst he
        simp only [upd, if_true, Option.some.injEq] at hxy
        subst hxy
        exact ⟨_, hg, hf.trans hf1.symm⟩
      · simp only [upd, if_neg he] at hxy
        exact ⟨_, hxy, rfl⟩
    obtain ⟨_, hj', e1⟩ := hx j p hj
    obtain ⟨_, hk', e2⟩ := hx k q hk
    exact hs.apart j k _ _ t u hjk hj' hk' ht hu ht' hu' (by rw [e1, e2]; exact hfx)
  · intro b hb hn
    exact hw.block b fun e => hn ⟨i, o, s, hg, hf, hi, hgo, e.symm⟩
  · rintro b ⟨j, p, t, hj, hpf, ht, ht', hb⟩
    simp only [upd] at hj
    split at hj
    · rename_i he; subst he
      exact .inl ⟨j, o, t, hg, hf, ht, ht', hb⟩
    · exact .inl ⟨j, p, t, hj, hpf, ht, ht', hb⟩

/-- A new block at the end. -/
structure Grew (o' : Obj) (w w' : World) : Prop where
  os : w'.os = w.os
  tape : w'.tape = w.tape
  output : w'.output = w.output
  heap : w'.heap = w.heap.push o'

def extR (ρ : Ren) (i : Nat) (s : Slot) : Ren := fun j => if j = i then some s else ρ j

theorem Ext.extR {ρ : Ren} {i : Nat} (hi : ρ i = none) (s : Slot) : Ext ρ (extR ρ i s) := by
  intro j t ht
  unfold Vm.extR
  split
  · rename_i he; subst he; rw [hi] at ht; cases ht
  · exact ht

/-- A name more. What it stands for is new, or is of nothing. -/
theorem sim_add {ρ : Ren} {V : Heap} {w w' : World} (hs : Sim ρ V w) {i : Nat} (hi : ρ i = none) {o : VObj} {s : Slot} (ho : s.gone = false → w.heap.size ≤ s.blk) (hw : w'.os = w.os ∧ w'.tape = w.tape ∧ w'.output = w.output ∧ w.heap.size ≤ w'.heap.size)
    (hb : ∀ b, b < w.heap.size → w'.heap[b]? = w.heap[b]?) (hr : At (extR ρ i s) w' s o) : Sim (extR ρ i s) (upd V i (some o)) w' ∧ Keep ρ V w (extR ρ i s) (upd V i (some o)) w' := by
  have hpre : Ext ρ (extR ρ i s) := Ext.extR hi _
  have hold : ∀ j p t, upd V i (some o) j = some p → extR ρ i s j = some t → (j = i ∧ p = o ∧ t = s) ∨ (j ≠ i ∧ V j = some p ∧ ρ j = some t ∧ (t.gone = false → t.blk < w.heap.size)) := by
    intro j p t hj ht
    by_cases he : j = i
    · subst he
      simp only [upd, if_true, Option.some.injEq] at hj
      simp only [extR, if_true, Option.some.injEq] at ht
      exact .inl ⟨rfl, hj.symm, ht.symm⟩
    · simp only [upd, if_neg he] at hj
      simp only [extR, if_neg he] at ht
      refine .inr ⟨he, hj, ht, fun hg => ?_⟩
      obtain ⟨_, h2, _⟩ := hs.at_ hj ht hg
      exact (Array.getElem?_eq_some_iff.1 h2).1
  refine ⟨⟨?_, ?_⟩, hw.1, hw.2.1, hw.2.2.1, hw.2.2.2, fun b hb' _ => hb b hb', ?_⟩
  · intro j p hj
    by_cases he : j = i
    · subst he
      simp only [upd, if_true, Option.some.injEq] at hj
      subst hj
      exact ⟨_, by simp [extR], hr⟩
    · simp only [upd, if_neg he] at hj
      obtain ⟨t, h1, h2⟩ := hs.has j p hj
      refine ⟨t, hpre _ _ h1, h2.mono hpre fun hg => ?_⟩
      obtain ⟨_, h2, _⟩ := hs.at_ hj h1 hg
      exact hb _ (Array.getElem?_eq_some_iff.1 h2).1
  · intro j k p q t u hjk hj hk ht hu ht' hu' hfx
    rcases hold j p t hj ht with ⟨h1, h2, h3⟩ | ⟨h1, h2, h3, h4⟩ <;> rcases hold k q u hk hu with ⟨k1, k2, k3⟩ | ⟨k1, k2, k3, k4⟩
    · exact (hjk (h1.trans k1.symm)).elim
    · subst h3; have := ho ht'; have := k4 hu'; omega
    · subst k3; have := ho hu'; have := h4 ht'; omega
    · exact hs.apart j k p q t u hjk h2 k2 h3 k3 ht' hu' hfx
  · rintro b ⟨j, p, t, hj, hpf, ht, ht', hb⟩
    rcases hold j p t hj ht with ⟨h1, h2, h3⟩ | ⟨h1, h2, h3, h4⟩
    · subst h3; exact .inr (hb ▸ ho ht')
    · exact .inl ⟨j, p, t, h2, hpf, h3, ht', hb⟩

theorem sim_new {ρ : Ren} {V : Heap} {w w' : World} (hs : Sim ρ V w) {i : Nat} (hi : ρ i = none) {o : VObj} {o' : Obj} {cap : Option (Nat × Nat)} (hc : (⟨w.heap.size, cap, 0⟩ : Slot).gone = false) (hw : Grew o' w w')
    (hr : ORel (extR ρ i ⟨w.heap.size, cap, 0⟩) ⟨w.heap.size, cap, 0⟩ o o') :
    Sim (extR ρ i ⟨w.heap.size, cap, 0⟩) (upd V i (some o)) w' ∧ Keep ρ V w (extR ρ i ⟨w.heap.size, cap, 0⟩) (upd V i (some o)) w' :=
  sim_add hs hi (fun _ => Nat.le_refl _) ⟨hw.os, hw.tape, hw.output, by rw [hw.heap]; simp⟩ (fun b hb => by rw [hw.heap, Array.getElem?_push, if_neg (by omega)]) (.inr ⟨hc, o', by rw [hw.heap]; simp, hr⟩)

/-- The slot of nothing. -/
def nowhere : Slot := ⟨0, some (0, 0), 0⟩

theorem sim_void {ρ : Ren} {V : Heap} {w : World} (hs : Sim ρ V w) {i : Nat} (hi : ρ i = none) {o : VObj} (ho : o.void = true) : Sim (extR ρ i nowhere) (upd V i (some o)) w ∧ Keep ρ V w (extR ρ i nowhere) (upd V i (some o)) w :=
  sim_add hs hi (fun h => by cases h) ⟨rfl, rfl, rfl, Nat.le_refl _⟩ (fun _ _ => rfl) (.inl ⟨rfl, ho, .inr rfl⟩)

end Go.Proofs.Yticaicdopfpknaa.Vm
