/- Slices among a law's arguments: they are read. No program in it. -/
import Derived.Test.YtjiajajifgfmjaaVmR
set_option linter.unusedVariables false
set_option linter.unusedSimpArgs false
namespace Go.Proofs.Ytjiajajifgfmjaa.Vm
open Go Go.RowKit

section
variable {P : Program} {τ : Nat → Option TI} {H : Type} {enc : TypeId × Value → H} {w : World} {base : Nat} {spare : Nat → Bool} {held : Bool}

theorem vrel_leaf {ρ : Ren} {l : Leaf} {v : Value} (h : LeafOk l v) : VRel ρ v v := by
  cases l with
  | bool => obtain ⟨b, rfl⟩ := h; exact .bool _
  | int k => obtain ⟨n, rfl, _⟩ := h; exact .int _ _
  | str => obtain ⟨s, rfl, _⟩ := h; exact .string _

/-- The cells that a slice shows: rows of leaves. -/
def RowsOk (ls : List Leaf) (len : Nat) (cs : List Value) : Prop := cs.length = len * ls.length ∧ ∀ i, i < len → RowOk ls ((cs.drop (i * ls.length)).take ls.length)

theorem okWide_slice {t e : TypeId} {r : Reach} {b : Nat} {a : Addr} {len cap : Nat} (ht : P.underlying t = some (.slice e)) (h : Value.okWide P w r b t (.slice (some a) len cap)) :
    a.spot = none ∧ ∃ c el fr, w.heap[a.block]? = some (.cells c el fr) := by
  unfold Value.okWide at h
  rw [ht] at h
  simp only [Cell.okWide, Cell.ok, ht, World.has] at h
  obtain ⟨_, _, _, h1, row, cells, h2, _⟩ := h
  refine ⟨h1, ?_⟩
  unfold World.shape? at h2
  split at h2
  · rename_i c el fr hc; exact ⟨c, el, fr, hc⟩
  · cases h2

theorem cells_at {b off : Nat} {c : Array Value} {el : TypeId} {fr : Nat × Nat} (hb : w.heap[b]? = some (.cells c el fr)) {k n : Nat} {cs : List Value} (h : w.cells? base ((⟨b, off, none⟩ : Addr).add k) n = some cs) :
    (c.toList.drop (off + k)).take n = cs := by
  obtain ⟨_, hl, hc⟩ := World.cells?_some h
  have e : ∀ j, ((⟨b, off, none⟩ : Addr).add k).add j = ⟨b, off + k + j, none⟩ := by
    intro j
    unfold Addr.add
    split <;> split <;> simp_all <;> omega
  have each : ∀ i, i < n → c[off + k + i]? = cs[i]? := by
    intro i hi
    have := hc i hi
    rw [e i] at this
    simpa [World.cell?, hb] using this
  apply List.ext_getElem?
  intro i
  by_cases hi : i < n
  · rw [List.getElem?_take, if_pos hi, List.getElem?_drop, ← each i hi]; simp
  · rw [List.getElem?_take, if_neg hi, List.getElem?_eq_none (by omega)]

theorem slice_of_trod (hτ : Tab P τ) {t e : TypeId} {te : TI} {d : Nat} {ls : List Leaf} {fuel : Nat} {v : Value} {r : Reach} {b : Nat} {x : DataW H × List MemPlace} (ht : P.underlying t = some (.slice e)) (he : τ e = some te) (hls : flat τ d e = some ls)
    (hsz : ls.length = te.size) (hval : Value.okWide P w r b t v) (h : DataW.trod enc P w base spare held fuel t [v] = some x) :
    v = .slice none 0 0 ∨ ∃ (bl off len cap : Nat) (cs : List Value) (c : Array Value) (el : TypeId) (fr : Nat × Nat), v = .slice (some ⟨bl, off, none⟩) len cap ∧ len ≤ cap ∧ cap ≤ maxLen ∧ w.heap[bl]? = some (.cells c el fr) ∧
      (c.toList.drop off).take cs.length = cs ∧ RowsOk ls len cs := by
  rcases DataW.trod_slice ht h with ⟨h0, _⟩ | ⟨a, len, cap, elems, rest, n, _, h1, _, hb, hl, hm, hlen, hel, _, _⟩
  · left; simpa using h0
  right
  obtain rfl : v = .slice (some a) len cap := by simpa using h1
  obtain ⟨hspot, c, el, fr, hc⟩ := okWide_slice ht hval
  obtain ⟨bl, off, spot⟩ := a
  simp only at hspot hc
  subst hspot
  have hce : P.cellsOf e = ls.length := by rw [cellsOf_ok hτ he, hsz]
  have each : ∀ i, i < len → ∃ cs, (c.toList.drop (off + i * ls.length)).take ls.length = cs ∧ cs.length = ls.length ∧ RowOk ls cs := by
    intro i hi
    have := hel i hi
    obtain ⟨y, hy⟩ : ∃ y, elems[i]? = some y := ⟨elems[i]'(by omega), by simp⟩
    rw [hy, hce, Option.bind_eq_some_iff] at this
    obtain ⟨cs, h2, h3⟩ := this
    refine ⟨cs, cells_at hc h2, (World.cells?_some h2).2.1, flat_of_trod hτ d e ls n cs y hls h3⟩
  refine ⟨bl, off, len, cap, (c.toList.drop off).take (len * ls.length), c, el, fr, rfl, hl, hm, hc, ?_, ?_⟩
  · rw [List.length_take, List.take_eq_take_iff.2]
    simp only [List.length_drop]; omega
  · have hlen : ((c.toList.drop off).take (len * ls.length)).length = len * ls.length := by
      rw [List.length_take]
      cases len with
      | zero => simp
      | succ k =>
        obtain ⟨cs, h1, h2, _⟩ := each k (by omega)
        have h3 : ls.length ≤ (c.toList.drop (off + k * ls.length)).length := by
          rw [← h1, List.length_take] at h2; omega
        have : (k + 1) * ls.length = k * ls.length + ls.length := by rw [Nat.add_mul, Nat.one_mul]
        simp only [List.length_drop] at h3 ⊢
        by_cases hz : ls.length = 0
        · rw [hz]; omega
        · omega
    refine ⟨hlen, fun i hi => ?_⟩
    obtain ⟨cs, h1, h2, h3⟩ := each i hi
    have hle : i * ls.length + ls.length ≤ len * ls.length := by
      have : (i + 1) * ls.length ≤ len * ls.length := Nat.mul_le_mul_right _ hi
      rw [Nat.add_mul, Nat.one_mul] at this; exact this
    have : (((c.toList.drop off).take (len * ls.length)).drop (i * ls.length)).take ls.length = cs := by
      rw [List.drop_take, List.take_take, List.drop_drop, ← h1]
      congr 1
      omega
    rw [this]; exact h3

theorem slice_arg (hτ : Tab P τ) {t e : TypeId} {te : TI} {d : Nat} {ls : List Leaf} {v : Value} {r : Reach} {b : Nat} {dd : DataW H} {ps : List MemPlace} (ht : P.underlying t = some (.slice e)) (he : τ e = some te) (hls : flat τ d e = some ls)
    (hsz : ls.length = te.size) (hval : Value.okWide P w r b t v) (h : DataW.Trod enc P w base spare held t v dd ps) :
    v = .slice none 0 0 ∨ ∃ (bl off len cap : Nat) (cs : List Value) (c : Array Value) (el : TypeId) (fr : Nat × Nat), v = .slice (some ⟨bl, off, none⟩) len cap ∧ len ≤ cap ∧ cap ≤ maxLen ∧ w.heap[bl]? = some (.cells c el fr) ∧
      (c.toList.drop off).take cs.length = cs ∧ RowsOk ls len cs := by
  obtain ⟨a, len, cap, rfl⟩ := Go.WideShapes.okWide_slice ht hval
  obtain ⟨fuel, hf⟩ := h
  exact slice_of_trod hτ ht he hls hsz hval (by simpa [Value.cells] using hf)

/-- Arguments' windows, as a small heap. -/
theorem sim_ro {ρ : Ren} {V : Heap} (h : ∀ i o, V i = some o → ∃ s cs c el fr, o = .ro cs ∧ ρ i = some s ∧ s.cap = none ∧ w.heap[s.blk]? = some (.cells c el fr) ∧ LRel ρ cs ((c.toList.drop s.base).take cs.length)) : Sim ρ V w := by
  constructor
  · intro i o hi
    obtain ⟨s, cs, c, el, fr, rfl, h1, h2, h3, h4⟩ := h i o hi
    exact ⟨s, _, h1, h3, .ro el fr h2 h4⟩
  · intro i j o p s t hij hi hj _ _ hfx
    obtain ⟨_, _, _, _, _, rfl, _⟩ := h i o hi
    obtain ⟨_, _, _, _, _, rfl, _⟩ := h j p hj
    cases hfx

theorem lrel_rows {ρ : Ren} {ls : List Leaf} {len : Nat} {cs : List Value} (h : RowsOk ls len cs) : LRel ρ cs cs := by
  refine ⟨rfl, fun i v v' h1 h2 => ?_⟩
  rw [h1] at h2; cases h2
  have hi := (List.getElem?_eq_some_iff.1 h1).1
  rw [h.1] at hi
  have hpos : 0 < ls.length := by
    rcases Nat.eq_zero_or_pos ls.length with h0 | h0
    · rw [h0] at hi; omega
    · exact h0
  have hd : i / ls.length < len := by rw [Nat.div_lt_iff_lt_mul hpos]; exact hi
  have hm := Nat.mod_lt i hpos
  have hrow := h.2 (i / ls.length) hd
  have hget : ((cs.drop (i / ls.length * ls.length)).take ls.length)[i % ls.length]? = some v := by
    rw [List.getElem?_take, if_pos hm, List.getElem?_drop, Nat.mul_comm, Nat.div_add_mod]; exact h1
  exact vrel_leaf (hrow.2 (i % ls.length) (ls[i % ls.length]'hm) v (by simp) hget)

/-- Rows of one integer each. -/
theorem ints_of_rows {k : IntKind} {len : Nat} {cs : List Value} (h : RowsOk [.int k] len cs) : ∃ xs : List Int, cs = xs.map (Value.int k) ∧ xs.length = len ∧ ∀ x ∈ xs, (Lit.int k x).wf = true := by
  have each : ∀ v ∈ cs, ∃ n, v = .int k n ∧ (Lit.int k n).wf = true := by
    intro v hv
    obtain ⟨i, hi⟩ := List.getElem?_of_mem hv
    have hlt := (List.getElem?_eq_some_iff.1 hi).1
    have hl := h.1
    simp only [List.length_cons, List.length_nil, Nat.zero_add, Nat.mul_one] at hl
    have hr := h.2 i (by omega)
    refine hr.2 0 (.int k) v rfl ?_
    simp only [List.length_cons, List.length_nil, Nat.zero_add, Nat.mul_one]
    rw [List.getElem?_take, if_pos (by omega), List.getElem?_drop]; exact hi
  have hl := h.1
  simp only [List.length_cons, List.length_nil, Nat.zero_add, Nat.mul_one] at hl
  clear h
  induction cs generalizing len with
  | nil => exact ⟨[], rfl, by simpa using hl, fun x hx => by cases hx⟩
  | cons v cs ih =>
    obtain ⟨xs, h1, h2, h3⟩ := ih (len := cs.length) (fun u hu => each u (List.mem_cons_of_mem _ hu)) rfl
    obtain ⟨n, rfl, hw⟩ := each v List.mem_cons_self
    refine ⟨n :: xs, by rw [h1]; rfl, by simpa [h2] using hl, fun x hx => ?_⟩
    rcases List.mem_cons.1 hx with rfl | hx
    · exact hw
    · exact h3 x hx

theorem strs_of_rows {len : Nat} {cs : List Value} (h : RowsOk [.str] len cs) : ∃ xs : List ByteArray, cs = xs.map Value.string ∧ xs.length = len ∧ ∀ x ∈ xs, x.size ≤ maxLen := by
  have each : ∀ v ∈ cs, ∃ n, v = .string n ∧ n.size ≤ maxLen := by
    intro v hv
    obtain ⟨i, hi⟩ := List.getElem?_of_mem hv
    have hlt := (List.getElem?_eq_some_iff.1 hi).1
    have hl := h.1
    simp only [List.length_cons, List.length_nil, Nat.zero_add, Nat.mul_one] at hl
    have hr := h.2 i (by omega)
    refine hr.2 0 .str v rfl ?_
    simp only [List.length_cons, List.length_nil, Nat.zero_add, Nat.mul_one]
    rw [List.getElem?_take, if_pos (by omega), List.getElem?_drop]; exact hi
  have hl := h.1
  simp only [List.length_cons, List.length_nil, Nat.zero_add, Nat.mul_one] at hl
  clear h
  induction cs generalizing len with
  | nil => exact ⟨[], rfl, by simpa using hl, fun x hx => by cases hx⟩
  | cons v cs ih =>
    obtain ⟨xs, h1, h2, h3⟩ := ih (len := cs.length) (fun u hu => each u (List.mem_cons_of_mem _ hu)) rfl
    obtain ⟨n, rfl, hw⟩ := each v List.mem_cons_self
    refine ⟨n :: xs, by rw [h1]; rfl, by simpa [h2] using hl, fun x hx => ?_⟩
    rcases List.mem_cons.1 hx with rfl | hx
    · exact hw
    · exact h3 x hx

theorem lrel_ints {ρ : Ren} {k : IntKind} (xs : List Int) : LRel ρ (xs.map (Value.int k)) (xs.map (Value.int k)) := by
  refine ⟨rfl, fun i v v' h1 h2 => ?_⟩
  rw [h1] at h2; cases h2
  rw [List.getElem?_map] at h1
  obtain ⟨x, _, rfl⟩ := Option.map_eq_some_iff.1 h1
  exact .int _ _

theorem lrel_strs {ρ : Ren} (xs : List ByteArray) : LRel ρ (xs.map Value.string) (xs.map Value.string) := by
  refine ⟨rfl, fun i v v' h1 h2 => ?_⟩
  rw [h1] at h2; cases h2
  rw [List.getElem?_map] at h1
  obtain ⟨x, _, rfl⟩ := Option.map_eq_some_iff.1 h1
  exact .string _

/-- Windows: block, place, cells. -/
def Wins (w : World) (L : List (Nat × Nat × List Value)) : Prop := ∀ x ∈ L, (∃ c el fr, w.heap[x.1]? = some (.cells c el fr) ∧ (c.toList.drop x.2.1).take x.2.2.length = x.2.2) ∧ ∀ ρ, LRel ρ x.2.2 x.2.2
theorem win_nil : Wins w [] := fun x h => by cases h
theorem win_cons {b o : Nat} {cs : List Value} {c : Array Value} {el : TypeId} {fr : Nat × Nat} {L : List (Nat × Nat × List Value)} (h1 : w.heap[b]? = some (.cells c el fr)) (h2 : (c.toList.drop o).take cs.length = cs) (h3 : ∀ ρ, LRel ρ cs cs) (t : Wins w L) :
    Wins w ((b, o, cs) :: L) := fun x h => by
  rcases List.mem_cons.1 h with rfl | h
  · exact ⟨⟨c, el, fr, h1, h2⟩, h3⟩
  · exact t x h

def renOf (L : List (Nat × Nat × List Value)) : Ren := fun i => (L[i]?).map fun x => ⟨x.1, none, x.2.1⟩
def roHeap : Nat → List (List Value) → List (Nat × VObj)
  | _, [] => []
  | k, c :: r => (k, .ro c) :: roHeap (k + 1) r

theorem lkp_roHeap : ∀ (l : List (List Value)) (k i : Nat) (o : VObj), lkp (roHeap k l) i = some o → k ≤ i ∧ ∃ cs, l[i - k]? = some cs ∧ o = .ro cs
  | [], k, i, o, h => by cases h
  | c :: r, k, i, o, h => by
    simp only [roHeap, lkp] at h
    split at h
    · rename_i he; subst he; cases h; exact ⟨Nat.le_refl _, c, by simp, rfl⟩
    · obtain ⟨h1, cs, h2, h3⟩ := lkp_roHeap r (k + 1) i o h
      refine ⟨by omega, cs, ?_, h3⟩
      rw [show i - k = (i - (k + 1)) + 1 by omega, List.getElem?_cons_succ]; exact h2

theorem sim_wins {L : List (Nat × Nat × List Value)} (h : Wins w L) : Sim (renOf L) (lkp (roHeap 0 (L.map (·.2.2)))) w := by
  refine sim_ro fun i o hi => ?_
  obtain ⟨_, cs, h1, rfl⟩ := lkp_roHeap _ 0 i o hi
  rw [Nat.sub_zero, List.getElem?_map] at h1
  obtain ⟨x, hx, rfl⟩ := Option.map_eq_some_iff.1 h1
  obtain ⟨⟨c, el, fr, h2, h3⟩, h4⟩ := h x (List.mem_of_getElem? hx)
  exact ⟨_, _, c, el, fr, rfl, by unfold renOf; rw [hx]; rfl, rfl, h2, by simp only; rw [h3]; exact h4 _⟩

theorem wins_fixed {l : List (List Value)} : ∀ i o, lkp (roHeap 0 l) i = some o → o.fixed = true := fun i o h => by
  obtain ⟨_, cs, _, rfl⟩ := lkp_roHeap _ 0 i o h; rfl

theorem law_calls {F : FuncId} {args args' : List Value} {n : Nat} {v : Value} {L : List (Nat × Nat × List Value)} (h : Tri P F args n 0 (lkp (roHeap 0 (L.map (·.2.2)))) (fun u L => u = v ∧ L = [])) (hw : Wins w L)
    (ha : LRel (renOf L) args args') (hv : ∀ ρ u, VRel ρ v u → u = v) : Calls P F args'.toArray w fun e w' => e = .returned v ∧ Below w.heap.size w w' :=
  tri_calls h (sim_wins hw) wins_fixed ha hv

theorem law_of_vw {m : Nat} (hτ : Tab P τ) {F : FuncId} {fn : Func} {c : Code} {args : List Value} {v : Value} (hf : P.funcs[F]? = some fn) (hb : fn.body = some c) (hm : fn.ntmps = m) (hlen : args.length ≤ m) (K : Nat) (l : List (List Value)) (hK : l.length = K)
    (hl : ∀ cs ∈ l, ∀ ρ, LRel ρ cs cs) (ha : LRel (idn K) args args) (hv : VRel no v v)
    (h : VW P m K c (fun e s => (e = .normal ∨ e = .ret) ∧ evResults τ s fn.results.toList = some v) ⟨argEnv 0 args, lkp (roHeap 0 l), K⟩) : Tri P F args K 0 (lkp (roHeap 0 l)) (fun u L => u = v ∧ L = []) := by
  refine tri_of_vw hτ hf hb hm hlen K (idn K) ?_ ?_ (roHeap 0 l) ?_ ha ?_
  · intro a s h
    unfold idn at h
    split at h
    · cases h; exact ⟨‹_›, rfl, rfl⟩
    · cases h
  · intro a b s t h1 h2 he
    unfold idn at h1 h2
    split at h1 <;> split at h2 <;> first | (cases h1; cases h2; exact he) | (cases h1; done) | cases h2
  · intro a o h
    obtain ⟨_, cs, h1, rfl⟩ := lkp_roHeap _ 0 a o h
    have hlt := (List.getElem?_eq_some_iff.1 h1).1
    refine ⟨⟨a, none, 0⟩, .ro cs, by unfold idn; rw [if_pos (by omega)], h, .ro (hl cs (List.mem_of_getElem? h1) _)⟩
  · refine h.mono ?_
    rintro e s ⟨h1, h2⟩
    exact ⟨h1, v, [], no, v, ⟨rfl, rfl⟩, h2, hv, ⟨fun j t h => (by cases h), fun j t h => (by cases h), fun i j t u h => (by cases h), fun i o h => (by cases h), fun a o u ha ho => by rw [wins_fixed a o ha] at ho; cases ho⟩⟩

end
end Go.Proofs.Ytjiajajifgfmjaa.Vm
