/- errors.As by contracts over the small heap; Code. -/
import Derived.Test.YtkfkdhjelncfhaaDoorAs0
import Derived.Test.YtkfkdhjelncfhaaDoorFd5
namespace Go.Proofs.YtkfkdhjelncfhaaDoor.Vm
open Go Go.RowKit
theorem cell0 {w : World} (h : Base w.heap) : w.cell? ⟨0, 0, none⟩ = some (.iface 74 (.agg #[.pointer (some ⟨1, 49, none⟩)])) := by
  unfold Base cellH at h
  unfold World.cell?
  split at h
  · rename_i c _ _ hc; rw [hc]; exact h
  · cases h
theorem base_of {w : World} (h : w.cell? ⟨0, 0, none⟩ = some (.iface 74 (.agg #[.pointer (some ⟨1, 49, none⟩)]))) : BaseW w := by
  unfold World.cell? at h
  split at h
  · rename_i c e fr hc
    refine ⟨?_, fun b hb => ?_⟩
    · unfold Base cellH; rw [hc]; exact h
    · have : b = 0 := by unfold lowB at hb; omega
      subst this; exact (Array.getElem?_eq_some_iff.1 hc).1
  · cases h
/-- More blocks; what was there is as it was. -/
theorem sim_below {ρ : Ren} {V : Heap} {w w' : World} (hs : Sim ρ V w) (h : Below w.heap.size w w') : Sim ρ V w' ∧ Keep ρ V w ρ V w' := by
  have hk : Keep ρ V w ρ V w' := ⟨h.os, h.tape, h.output, h.size, fun b hb _ => h.block b hb, fun b hb => .inl hb⟩
  refine ⟨⟨fun i o hi => ?_, hs.apart, hs.base.keep hk⟩, hk⟩
  obtain ⟨s, h1, h2⟩ := hs.has i o hi
  refine ⟨s, h1, h2.mono (.refl _) fun hg => ?_⟩
  obtain ⟨o', h3, _⟩ := hs.at_ hi h1 hg
  exact h.block _ (Array.getElem?_eq_some_iff.1 h3).1
theorem cellsO_at {ρ : Ren} {V : Heap} {w : World} (hs : Sim ρ V w) {i : Nat} {c : List Value} {e : TypeId} (hV : V i = some (.cells c e (0, 0))) {s : Slot} (hi : ρ i = some s) : s.gone = false ∧ s.cap = none ∧ s.base = 0 ∧ ∃ c', w.heap[s.blk]? = some (.cells c' e (0, 0)) ∧ LRel ρ c c'.toList := by
  obtain ⟨t, o', h1, h2, h3, h4⟩ := hs.real hV rfl
  rw [hi] at h1; cases h1
  cases h4 with
  | cells _ _ a b hl => exact ⟨h2, a, b, _, h3, hl⟩
theorem cell_at {w : World} {b k : Nat} {c : Array Value} {e : TypeId} {fr : Nat × Nat} {v : Value} (h : w.heap[b]? = some (.cells c e fr)) (hk : c.toList[k]? = some v) : w.cell? ⟨b, k, none⟩ = some v := by
  unfold World.cell?; rw [h]; simpa using hk
theorem thaw_at {w : World} {b k : Nat} {c : Array Value} {e : TypeId} (h : w.heap[b]? = some (.cells c e (0, 0))) : w.frozen? ⟨b, k, none⟩ = false := by
  unfold World.frozen?; rw [h]; simp
/-- One number is set, behind blocks that came. -/
theorem sim_set {ρ : Ren} {V : Heap} {w w1 : World} (hs : Sim ρ V w) {j : Nat} {c v : Value} {e : TypeId} (hV : V j = some (.cells [c] e (0, 0))) {s : Slot} (hj : ρ j = some s) (h : Below w.heap.size w w1) (hv : VRel ρ v v) :
    Sim ρ (over V [(j, some (.cells [v] e (0, 0)))]) (w1.setCell ⟨s.blk, 0, none⟩ v) ∧ Keep ρ V w ρ (over V [(j, some (.cells [v] e (0, 0)))]) (w1.setCell ⟨s.blk, 0, none⟩ v) := by
  obtain ⟨hg, hc, hb, c', h1, hl⟩ := cellsO_at hs hV hj
  obtain ⟨hs1, hk1⟩ := sim_below hs h
  have hlt : s.blk < w.heap.size := (Array.getElem?_eq_some_iff.1 h1).1
  have h2 : w1.heap[s.blk]? = some (.cells c' e (0, 0)) := (h.block _ hlt).trans h1
  have hw : Wrote s.blk w1 (w1.setCell ⟨s.blk, 0, none⟩ v) := ⟨rfl, rfl, rfl, by simp [World.setCell], fun k hk => by
    show (w1.heap.modify s.blk _)[k]? = _
    rw [Array.getElem?_modify, if_neg (fun e => hk e.symm)]⟩
  have hsz : c'.size = 1 := by have := hl.1; simpa using this.symm
  obtain ⟨x, hx⟩ : ∃ x, c' = #[x] := by
    refine ⟨c'[0], ?_⟩
    apply Array.ext
    · simp [hsz]
    · intro i h1 h2; have : i = 0 := by omega
      subst this; simp
  have h3 : (w1.setCell ⟨s.blk, 0, none⟩ v).heap[s.blk]? = some (.cells #[v] e (0, 0)) := by
    show (w1.heap.modify s.blk _)[s.blk]? = _
    rw [Array.getElem?_modify, if_pos rfl, h2, hx]; rfl
  have := sim_put hs1 hV rfl (o1 := .cells [v] e (0, 0)) rfl hj hg hw h3 (.cells e (0, 0) hc hb (by simpa using lrel_cons hv lrel_nil))
  rw [over_cons, over_nil]
  exact ⟨this.1, hk1.trans this.2⟩
end Go.Proofs.YtkfkdhjelncfhaaDoor.Vm
namespace Go.Proofs.YtkfkdhjelncfhaaDoor
open Go Vm IntWalk Go.RowKit
set_option linter.unusedVariables false
set_option linter.unusedSimpArgs false
abbrev errnoO (e : Int) : VObj := .cells [.int .i64 e] 22 (0, 0)
abbrev toErr (j : Nat) : Value := .iface 60 (.pointer (some ⟨j, 0, none⟩))
theorem fault_cells {ρ : Ren} {V : Heap} {w : World} (hs : Sim ρ V w) {i : Nat} {p e : Int} (hV : V i = some (faultO p e)) {s : Slot} (hi : ρ i = some s) : w.cell? ⟨s.blk, 1, none⟩ = some (.iface 22 (.int .i64 e)) := by
  obtain ⟨_, _, _, c', h1, hl⟩ := cellsO_at hs hV hi
  have hlen : c'.toList.length = 2 := hl.1.symm
  obtain ⟨x, y, hxy⟩ : ∃ x y, c'.toList = [x, y] := by
    match hq : c'.toList with
    | [x, y] => exact ⟨x, y, rfl⟩
    | [] => rw [hq] at hlen; cases hlen
    | [x] => rw [hq] at hlen; cases hlen
    | x :: y :: z :: r => rw [hq] at hlen; simp at hlen
  have hy := hl.2 1 _ y rfl (by rw [hxy]; rfl)
  cases hy with
  | iface _ h => cases h; exact cell_at h1 (by rw [hxy]; rfl)
theorem fault_link {ρ : Ren} {V : Heap} {w : World} (hs : Sim ρ V w) {i j : Nat} {p : Int} (hV : V i = some (fault2O p j)) {s : Slot} (hi : ρ i = some s) : ∃ u, ρ j = some u ∧ w.cell? ⟨s.blk, 1, none⟩ = some (.iface 56 (.pointer (some ⟨u.blk, u.base + 0, none⟩))) := by
  obtain ⟨_, _, _, c', h1, hl⟩ := cellsO_at hs hV hi
  have hlen : c'.toList.length = 2 := hl.1.symm
  obtain ⟨x, y, hxy⟩ : ∃ x y, c'.toList = [x, y] := by
    match hq : c'.toList with
    | [x, y] => exact ⟨x, y, rfl⟩
    | [] => rw [hq] at hlen; cases hlen
    | [x] => rw [hq] at hlen; cases hlen
    | x :: y :: z :: r => rw [hq] at hlen; simp at hlen
  have hy := hl.2 1 _ y rfl (by rw [hxy]; rfl)
  cases hy with
  | iface _ h => cases h with
    | ptr hj hg => exact ⟨_, hj, cell_at h1 (by rw [hxy]; rfl)⟩
theorem two_args {ρ : Ren} {v1 v2 : Value} {args' : List Value} (h : LRel ρ [v1, v2] args') : ∃ u1 u2, args' = [u1, u2] ∧ VRel ρ v1 u1 ∧ VRel ρ v2 u2 := by
  match args', h with
  | [u1, u2], h => exact ⟨u1, u2, rfl, h.2 0 _ _ rfl rfl, h.2 1 _ _ rfl rfl⟩
  | [], h => cases h.1
  | [_], h => cases h.1
  | _ :: _ :: _ :: r, h => have := h.1; simp at this
theorem as0_tri {V : Heap} {n j : Nat} : Tri Tryd.prog 25 [.nilIface, toErr j] n 0 V (fun v L => v = .bool false ∧ L = []) := by
  intro ρ w args' hl hs ha
  obtain ⟨u1, u2, rfl, r1, r2⟩ := two_args ha
  cases r1
  refine (As.as_nil u2 w).mono ?_
  rintro e w' ⟨rfl, rfl⟩
  exact ⟨_, [], _, ρ, ⟨rfl, rfl⟩, rfl, .bool _, hs, .refl _ _ _, fun _ _ => rfl⟩
theorem as1_tri {V : Heap} {n i j : Nat} {p e : Int} {old : Int} (hi : V i = some (faultO p e)) (hj : V j = some (errnoO old)) :
    Tri Tryd.prog 25 [errP i, toErr j] n 0 V (fun v L => v = .bool true ∧ L = [(j, some (errnoO e))]) := by
  intro ρ w args' hl hs ha
  obtain ⟨u1, u2, rfl, r1, r2⟩ := two_args ha
  cases r1 with | iface _ r1 => cases r1 with | ptr hsi _ =>
  cases r2 with | iface _ r2 => cases r2 with | @ptr _ _ sj hsj _ =>
  obtain ⟨_, _, hb1, _, _, _⟩ := cellsO_at hs hi hsi
  obtain ⟨_, _, hb2, c2, q2, l2⟩ := cellsO_at hs hj hsj
  have he := fault_cells hs hi hsi
  have hlen : c2.toList.length = 1 := l2.1.symm
  obtain ⟨x, hx⟩ : ∃ x, c2.toList = [x] := by
    match hq : c2.toList with
    | [x] => exact ⟨x, rfl⟩
    | [] => rw [hq] at hlen; cases hlen
    | x :: y :: r => rw [hq] at hlen; simp at hlen
  rw [hb1, hb2]
  refine (As.as_one _ ⟨sj.blk, 0, none⟩ e x w (cell0 hs.base.val) he (cell_at q2 (by rw [hx]; rfl)) (thaw_at q2)).mono ?_
  rintro ev w' ⟨rfl, rfl⟩
  obtain ⟨s1, k1⟩ := sim_set hs hj hsj (.alloc (.alloc (.alloc (.alloc (.refl _ _) (Nat.le_refl _) _) (by simp) _) (by simp; omega) _) (by simp; omega) _) (.int .i64 e)
  exact ⟨_, _, _, ρ, ⟨rfl, rfl⟩, rfl, .bool _, s1, k1, fun _ _ => rfl⟩
theorem as2_tri {V : Heap} {n i k j : Nat} {a p e : Int} {old : Int} (hi : V i = some (fault2O a k)) (hk : V k = some (faultO p e)) (hj : V j = some (errnoO old)) :
    Tri Tryd.prog 25 [errP i, toErr j] n 0 V (fun v L => v = .bool true ∧ L = [(j, some (errnoO e))]) := by
  intro ρ w args' hl hs ha
  obtain ⟨u1, u2, rfl, r1, r2⟩ := two_args ha
  cases r1 with | iface _ r1 => cases r1 with | ptr hsi _ =>
  cases r2 with | iface _ r2 => cases r2 with | @ptr _ _ sj hsj _ =>
  obtain ⟨_, _, hb1, _, _, _⟩ := cellsO_at hs hi hsi
  obtain ⟨_, _, hb2, c2, q2, l2⟩ := cellsO_at hs hj hsj
  obtain ⟨sk, hsk, hlk⟩ := fault_link hs hi hsi
  obtain ⟨_, _, hb3, _, _, _⟩ := cellsO_at hs hk hsk
  have he := fault_cells hs hk hsk
  have hlen : c2.toList.length = 1 := l2.1.symm
  obtain ⟨x, hx⟩ : ∃ x, c2.toList = [x] := by
    match hq : c2.toList with
    | [x] => exact ⟨x, rfl⟩
    | [] => rw [hq] at hlen; cases hlen
    | x :: y :: r => rw [hq] at hlen; simp at hlen
  rw [hb1, hb2]
  rw [hb3] at hlk
  refine (As.as_two _ _ ⟨sj.blk, 0, none⟩ e x w (cell0 hs.base.val) hlk he (cell_at q2 (by rw [hx]; rfl)) (thaw_at q2)).mono ?_
  rintro ev w' ⟨rfl, rfl⟩
  obtain ⟨s1, k1⟩ := sim_set hs hj hsj (.alloc (.alloc (.alloc (.alloc (.refl _ _) (Nat.le_refl _) _) (by simp) _) (by simp; omega) _) (by simp; omega) _) (.int .i64 e)
  exact ⟨_, _, _, ρ, ⟨rfl, rfl⟩, rfl, .bool _, s1, k1, fun _ _ => rfl⟩
end Go.Proofs.YtkfkdhjelncfhaaDoor
