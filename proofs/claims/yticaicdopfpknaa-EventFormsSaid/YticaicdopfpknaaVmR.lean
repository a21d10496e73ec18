/- From what a call asks and gives to a law's row: arguments that are read. No program in it. -/
import Derived.Test.YticaicdopfpknaaVmN
import Derived.ChangeArms
import Derived.ProofKit
set_option linter.unusedVariables false
set_option linter.unusedSimpArgs false
namespace Go.Proofs.Yticaicdopfpknaa.Vm
open Go Go.RowKit

section
variable {P : Program} {τ : Nat → Option TI}

theorem below_of_keep {ρ ρ' : Ren} {V V' : Heap} {w w' : World} (h : Keep ρ V w ρ' V' w') (hn : ∀ b, ¬ Blks ρ V b) : Below w.heap.size w w' :=
  ⟨h.os, h.tape, h.output, h.size, fun k hk => h.block k hk (hn k)⟩

/-- A law: whatever is read and not written is as it was. -/
theorem tri_calls {F : FuncId} {args args' : List Value} {n : Nat} {V : Heap} {v : Value} (h : Tri P F args n 0 V (fun u L => u = v ∧ L = [])) {ρ : Ren} {w : World} (hs : Sim ρ V w) (hro : ∀ i o, V i = some o → o.fixed = true)
    (ha : LRel ρ args args') (hv : ∀ ρ u, VRel ρ v u → u = v) : Calls P F args'.toArray w fun e w' => e = .returned v ∧ Below w.heap.size w w' := by
  refine (h ρ w args' (fun i h1 h2 => by omega) hs ha).mono ?_
  rintro e w' ⟨u, L, v', ρ', ⟨rfl, rfl⟩, he, hvr, _, hk, _⟩
  rw [hv _ _ hvr] at he
  refine ⟨he, below_of_keep hk ?_⟩
  rintro b ⟨i, o, s, h1, h2, _⟩
  rw [hro i o h1] at h2; cases h2

theorem fun_calls {F : FuncId} {args : List Value} {v : Value} (h : Fun P F args v) {w : World} (ha : LRel no args args) (hv : ∀ ρ u, VRel ρ v u → u = v) : Calls P F args.toArray w fun e w' => e = .returned v ∧ Below w.heap.size w w' :=
  tri_calls (ρ := no) (h 0 (fun _ => none)) ⟨fun i o h => (by cases h), fun i j o p s t _ h => (by cases h)⟩ (fun i o h => (by cases h)) ha hv

theorem rel_bool {b : Bool} : ∀ (ρ : Ren) (u : Value), VRel ρ (.bool b) u → u = .bool b := fun ρ u h => by cases h; rfl

theorem len1 {α : Type} {l : List α} (h : l.length = 1) : ∃ a0, l = [a0] := by
  match l, h with
  | [a0], _ => exact ⟨a0, rfl⟩
theorem len2 {α : Type} {l : List α} (h : l.length = 2) : ∃ a0 a1, l = [a0, a1] := by
  match l, h with
  | [a0, a1], _ => exact ⟨a0, a1, rfl⟩
theorem len3 {α : Type} {l : List α} (h : l.length = 3) : ∃ a0 a1 a2, l = [a0, a1, a2] := by
  match l, h with
  | [a0, a1, a2], _ => exact ⟨a0, a1, a2, rfl⟩
theorem len4 {α : Type} {l : List α} (h : l.length = 4) : ∃ a0 a1 a2 a3, l = [a0, a1, a2, a3] := by
  match l, h with
  | [a0, a1, a2, a3], _ => exact ⟨a0, a1, a2, a3, rfl⟩
theorem len5 {α : Type} {l : List α} (h : l.length = 5) : ∃ a0 a1 a2 a3 a4, l = [a0, a1, a2, a3, a4] := by
  match l, h with
  | [a0, a1, a2, a3, a4], _ => exact ⟨a0, a1, a2, a3, a4, rfl⟩
theorem len6 {α : Type} {l : List α} (h : l.length = 6) : ∃ a0 a1 a2 a3 a4 a5, l = [a0, a1, a2, a3, a4, a5] := by
  match l, h with
  | [a0, a1, a2, a3, a4, a5], _ => exact ⟨a0, a1, a2, a3, a4, a5, rfl⟩
theorem len7 {α : Type} {l : List α} (h : l.length = 7) : ∃ a0 a1 a2 a3 a4 a5 a6, l = [a0, a1, a2, a3, a4, a5, a6] := by
  match l, h with
  | [a0, a1, a2, a3, a4, a5, a6], _ => exact ⟨a0, a1, a2, a3, a4, a5, a6, rfl⟩
theorem len8 {α : Type} {l : List α} (h : l.length = 8) : ∃ a0 a1 a2 a3 a4 a5 a6 a7, l = [a0, a1, a2, a3, a4, a5, a6, a7] := by
  match l, h with
  | [a0, a1, a2, a3, a4, a5, a6, a7], _ => exact ⟨a0, a1, a2, a3, a4, a5, a6, a7, rfl⟩
theorem len9 {α : Type} {l : List α} (h : l.length = 9) : ∃ a0 a1 a2 a3 a4 a5 a6 a7 a8, l = [a0, a1, a2, a3, a4, a5, a6, a7, a8] := by
  match l, h with
  | [a0, a1, a2, a3, a4, a5, a6, a7, a8], _ => exact ⟨a0, a1, a2, a3, a4, a5, a6, a7, a8, rfl⟩
theorem len10 {α : Type} {l : List α} (h : l.length = 10) : ∃ a0 a1 a2 a3 a4 a5 a6 a7 a8 a9, l = [a0, a1, a2, a3, a4, a5, a6, a7, a8, a9] := by
  match l, h with
  | [a0, a1, a2, a3, a4, a5, a6, a7, a8, a9], _ => exact ⟨a0, a1, a2, a3, a4, a5, a6, a7, a8, a9, rfl⟩
theorem len11 {α : Type} {l : List α} (h : l.length = 11) : ∃ a0 a1 a2 a3 a4 a5 a6 a7 a8 a9 a10, l = [a0, a1, a2, a3, a4, a5, a6, a7, a8, a9, a10] := by
  match l, h with
  | [a0, a1, a2, a3, a4, a5, a6, a7, a8, a9, a10], _ => exact ⟨a0, a1, a2, a3, a4, a5, a6, a7, a8, a9, a10, rfl⟩
theorem len12 {α : Type} {l : List α} (h : l.length = 12) : ∃ a0 a1 a2 a3 a4 a5 a6 a7 a8 a9 a10 a11, l = [a0, a1, a2, a3, a4, a5, a6, a7, a8, a9, a10, a11] := by
  match l, h with
  | [a0, a1, a2, a3, a4, a5, a6, a7, a8, a9, a10, a11], _ => exact ⟨a0, a1, a2, a3, a4, a5, a6, a7, a8, a9, a10, a11, rfl⟩
theorem len13 {α : Type} {l : List α} (h : l.length = 13) : ∃ a0 a1 a2 a3 a4 a5 a6 a7 a8 a9 a10 a11 a12, l = [a0, a1, a2, a3, a4, a5, a6, a7, a8, a9, a10, a11, a12] := by
  match l, h with
  | [a0, a1, a2, a3, a4, a5, a6, a7, a8, a9, a10, a11, a12], _ => exact ⟨a0, a1, a2, a3, a4, a5, a6, a7, a8, a9, a10, a11, a12, rfl⟩
theorem len14 {α : Type} {l : List α} (h : l.length = 14) : ∃ a0 a1 a2 a3 a4 a5 a6 a7 a8 a9 a10 a11 a12 a13, l = [a0, a1, a2, a3, a4, a5, a6, a7, a8, a9, a10, a11, a12, a13] := by
  match l, h with
  | [a0, a1, a2, a3, a4, a5, a6, a7, a8, a9, a10, a11, a12, a13], _ => exact ⟨a0, a1, a2, a3, a4, a5, a6, a7, a8, a9, a10, a11, a12, a13, rfl⟩
theorem len15 {α : Type} {l : List α} (h : l.length = 15) : ∃ a0 a1 a2 a3 a4 a5 a6 a7 a8 a9 a10 a11 a12 a13 a14, l = [a0, a1, a2, a3, a4, a5, a6, a7, a8, a9, a10, a11, a12, a13, a14] := by
  match l, h with
  | [a0, a1, a2, a3, a4, a5, a6, a7, a8, a9, a10, a11, a12, a13, a14], _ => exact ⟨a0, a1, a2, a3, a4, a5, a6, a7, a8, a9, a10, a11, a12, a13, a14, rfl⟩
theorem len16 {α : Type} {l : List α} (h : l.length = 16) : ∃ a0 a1 a2 a3 a4 a5 a6 a7 a8 a9 a10 a11 a12 a13 a14 a15, l = [a0, a1, a2, a3, a4, a5, a6, a7, a8, a9, a10, a11, a12, a13, a14, a15] := by
  match l, h with
  | [a0, a1, a2, a3, a4, a5, a6, a7, a8, a9, a10, a11, a12, a13, a14, a15], _ => exact ⟨a0, a1, a2, a3, a4, a5, a6, a7, a8, a9, a10, a11, a12, a13, a14, a15, rfl⟩
theorem okWide_agg {t : TypeId} {fs : Array Field} {r : Reach} {base : Nat} {W : World} {v : Value} {P : Program} (ht : P.underlying t = some (.struct fs)) (h : Value.okWide P W r base t v) : ∃ cs : List Value, v = .agg cs.toArray := by
  unfold Value.okWide at h
  rw [ht] at h
  obtain ⟨cs, rfl, _⟩ := h
  exact ⟨cs.toList, by simp⟩

/-- What a cell of a flat type holds. -/
inductive Leaf where
  | bool
  | int (k : IntKind)
  | str

def LeafOk : Leaf → Value → Prop
  | .bool, v => ∃ b, v = .bool b
  | .int k, v => ∃ n, v = .int k n ∧ (Lit.int k n).wf = true
  | .str, v => ∃ s, v = .string s ∧ s.size ≤ maxLen

def leavesFs (f : Nat → Option (List Leaf)) : Nat → List Field → Option (List Leaf)
  | _, [] => some []
  | off, fd :: fs =>
    if fd.offset = off then
      match f fd.type with
      | some ls => (leavesFs f (off + ls.length) fs).map (ls ++ ·)
      | none => none
    else none

def flat (τ : Nat → Option TI) : Nat → Nat → Option (List Leaf)
  | 0, _ => none
  | d + 1, t =>
    match τ t with
    | none => none
    | some ti =>
      match ti.desc with
      | .bool => some [.bool]
      | .int k => some [.int k]
      | .string => some [.str]
      | .struct fs => match leavesFs (flat τ d) 0 fs.toList with
        | some ls => if ls.length = ti.size then some ls else none
        | none => none
      | _ => none

def RowOk (ls : List Leaf) (cs : List Value) : Prop := cs.length = ls.length ∧ ∀ (i : Nat) l v, ls[i]? = some l → cs[i]? = some v → LeafOk l v

theorem mapM_each {α β : Type} {f : α → Option β} : ∀ {l : List α} {r : List β}, l.mapM f = some r → ∀ a ∈ l, ∃ b, f a = some b
  | [], _, _, a, ha => by cases ha
  | x :: l, r, h, a, ha => by
    simp only [List.mapM_cons, Option.bind_eq_bind, Option.bind_eq_some_iff] at h
    obtain ⟨b, hb, r', hr', _⟩ := h
    rcases List.mem_cons.1 ha with rfl | ha
    · exact ⟨b, hb⟩
    · exact mapM_each hr' a ha

theorem cellsOf_ok (hτ : Tab P τ) {t : Nat} {ti : TI} (h : τ t = some ti) : P.cellsOf t = ti.size := by
  obtain ⟨f, hf, hs, _⟩ := hτ.ok.info t ti h
  simp [Program.cellsOf, hf, hs]

theorem size_flat : ∀ {d t : Nat} {ls : List Leaf} {ti : TI}, flat τ d t = some ls → τ t = some ti → (∀ t ti, τ t = some ti → ti.zero.cells.size = ti.size) → (match ti.desc with | .struct _ => True | _ => ti.size = 1) → ls.length = ti.size := by
  intro d t ls ti h ht _ h1
  cases d with
  | zero => cases h
  | succ d =>
    simp only [flat, ht] at h
    split at h
    · cases h; rename_i hd; rw [hd] at h1; simpa using h1.symm
    · cases h; rename_i hd; rw [hd] at h1; simpa using h1.symm
    · cases h; rename_i hd; rw [hd] at h1; simpa using h1.symm
    · split at h
      · split at h
        · cases h; assumption
        · cases h
      · cases h
    · cases h

variable {H : Type} {enc : TypeId × Value → H} {w : World} {base : Nat} {spare : Nat → Bool} {held : Bool}

theorem flat_of_trod (hτ : Tab P τ) : ∀ (d : Nat) (t : Nat) (ls : List Leaf) (fuel : Nat) (cs : List Value) (x : DataW H × List MemPlace), flat τ d t = some ls → DataW.trod enc P w base spare held fuel t cs = some x → RowOk ls cs
  | 0, t, ls, fuel, cs, x, h, _ => by cases h
  | d + 1, t, ls, fuel, cs, x, h, hx => by
    simp only [flat] at h
    split at h
    case h_1 => cases h
    rename_i ti ht
    have hu := hτ.ok.under t ti ht
    split at h
    · rename_i hd
      rw [hd] at hu; cases h
      obtain ⟨b, rfl, _⟩ := DataW.trod_bool hu hx
      exact ⟨rfl, fun i l v h1 h2 => by
        cases i with
        | zero => simp only [List.getElem?_cons_zero, Option.some.injEq] at h1 h2; subst h1; subst h2; exact ⟨b, rfl⟩
        | succ i => simp at h1⟩
    · rename_i k hd
      rw [hd] at hu; cases h
      obtain ⟨n, rfl, _, hw⟩ := DataW.trod_int hu hx
      exact ⟨rfl, fun i l v h1 h2 => by
        cases i with
        | zero => simp only [List.getElem?_cons_zero, Option.some.injEq] at h1 h2; subst h1; subst h2; exact ⟨n, rfl, hw⟩
        | succ i => simp at h1⟩
    · rename_i hd
      rw [hd] at hu; cases h
      obtain ⟨s, rfl, hs⟩ := DataW.trod_string hu hx
      exact ⟨rfl, fun i l v h1 h2 => by
        cases i with
        | zero => simp only [List.getElem?_cons_zero, Option.some.injEq] at h1 h2; subst h1; subst h2; exact ⟨s, rfl, hs.2⟩
        | succ i => simp at h1⟩
    · rename_i fs hd
      rw [hd] at hu
      split at h
      case h_2 => cases h
      rename_i ls' hls
      split at h
      case isFalse => cases h
      rename_i hsz
      cases h
      cases fuel with
      | zero => simp [DataW.trod] at hx
      | succ n =>
      have hlen : cs.length = ti.size ∧ ∃ xs, (fs.toList.mapM fun f => DataW.trod enc P w base spare held n f.type ((cs.drop f.offset).take (P.cellsOf f.type))) = some xs := by
        unfold DataW.trod at hx
        rw [hu] at hx
        simp only [Option.map_eq_some_iff] at hx
        split at hx
        · rename_i hl
          obtain ⟨xs, h1, _⟩ := Option.map_eq_some_iff.1 hx
          exact ⟨by rw [hl, cellsOf_ok hτ ht], xs, h1⟩
        · cases hx
      obtain ⟨hl, xs, hxs⟩ := hlen
      have each := mapM_each hxs
      refine ⟨hl.trans hsz.symm, ?_⟩
      have key : ∀ (l : List Field) (off : Nat) (ls : List Leaf), leavesFs (flat τ d) off l = some ls → (∀ f ∈ l, f ∈ fs.toList) → ∀ (i : Nat) lf v, ls[i]? = some lf → cs[off + i]? = some v → LeafOk lf v := by
        intro l
        induction l with
        | nil => intro off ls h1 _ i lf v h2; cases h1; simp at h2
        | cons f l ih =>
          intro off ls h1 hmem i lf v h2 h3
          simp only [leavesFs] at h1
          split at h1
          case isFalse => cases h1
          rename_i ho
          split at h1
          case h_2 => cases h1
          rename_i l1 hl1
          obtain ⟨l2, hl2, rfl⟩ := Option.map_eq_some_iff.1 h1
          obtain ⟨y, hy⟩ := each f (hmem f List.mem_cons_self)
          have hrow := flat_of_trod hτ d f.type l1 n _ y hl1 hy
          by_cases hi : i < l1.length
          · rw [List.getElem?_append_left hi] at h2
            refine hrow.2 i lf v h2 ?_
            have := hrow.1
            simp only [List.length_take, List.length_drop] at this
            rw [List.getElem?_take, if_pos (by omega), List.getElem?_drop, ho]
            exact h3
          · rw [List.getElem?_append_right (by omega)] at h2
            refine ih (off + l1.length) l2 hl2 (fun g hg => hmem g (List.mem_cons_of_mem _ hg)) (i - l1.length) lf v h2 ?_
            rw [show off + l1.length + (i - l1.length) = off + i from by omega]
            exact h3
      intro i l v h1 h2
      exact key fs.toList 0 ls hls (fun f hf => hf) i l v h1 (by simpa using h2)
    · cases h

end
end Go.Proofs.Yticaicdopfpknaa.Vm
