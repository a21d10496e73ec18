/- Slices among a law's arguments: they are read. No program in it. -/
import Derived.Test.YticaicdopfpknaaVmR
import Derived.Test.YticaicdopfpknaaVmX
import Derived.Test.YticaicdopfpknaaVmRow
import Derived.SizedLaws
set_option linter.unusedVariables false
set_option linter.unusedSimpArgs false
namespace Go.Proofs.Yticaicdopfpknaa.Vm
open Go Go.RowKit

section
variable {P : Program} {τ : Nat → Option TI} {H : Type} {enc : TypeId × Value → H} {w : World} {base : Nat} {spare : Nat → Bool} {held : Bool}

theorem vrel_leaf {ρ : Ren} {l : Leaf} {v : Value} (h : LeafOk l v) : VRel ρ v v := by
  cases l with
  | bool => obtain ⟨b, rfl⟩ := h; exact .bool _
  | int k => obtain ⟨n, rfl, _⟩ := h; exact .int _ _
  | str => obtain ⟨s, rfl, _⟩ := h; exact .string _

/-- The cells that a slice shows: rows of leaves. -/
def RowsOk (ls : List Leaf) (len : Nat) (cs : List Value) : Prop := cs.length = len * ls.length ∧ ∀ i, i < len → RowOk ls ((cs.drop (i * ls.length)).take ls.length)

theorem okWide_slice {t e : TypeId} {r : Reach} {b : Nat} {a : Addr} {len cap : Nat} (ht : P.underlying t = some (.slice e)) (h : Value.okWide P w r b t (.slice (some a) len cap)) :
    a.spot = none ∧ ∃ c el fr, w.heap[a.block]? = some (.cells c el fr) := by
  unfold Value.okWide at h
  rw [ht] at h
  simp only [Cell.okWide, Cell.ok, ht, World.has] at h
  obtain ⟨_, _, _, h1, row, cells, h2, _⟩ := h
  refine ⟨h1, ?_⟩
  unfold World.shape? at h2
  split at h2
  · rename_i c el fr hc; exact ⟨c, el, fr, hc⟩
  · cases h2

theorem cells_at {b off : Nat} {c : Array Value} {el : TypeId} {fr : Nat × Nat} (hb : w.heap[b]? = some (.cells c el fr)) {k n : Nat} {cs : List Value} (h : w.cells? base ((⟨b, off, none⟩ : Addr).add k) n = some cs) :
    (c.toList.drop (off + k)).take n = cs := by
  obtain ⟨_, hl, hc⟩ := World.cells?_some h
  have e : ∀ j, ((⟨b, off, none⟩ : Addr).add k).add j = ⟨b, off + k + j, none⟩ := by
    intro j
    unfold Addr.add
    split <;> split <;> simp_all <;> omega
  have each : ∀ i, i < n → c[off + k + i]? = cs[i]? := by
    intro i hi
    have := hc i hi
    rw [e i] at this
    simpa [World.cell?, hb] using this
  apply List.ext_getElem?
  intro i
  by_cases hi : i < n
  · rw [List.getElem?_take, if_pos hi, List.getElem?_drop, ← each i hi]; simp
  · rw [List.getElem?_take, if_neg hi, List.getElem?_eq_none (by omega)]

theorem slice_of_trod (hτ : Tab P τ) {t e : TypeId} {te : TI} {d : Nat} {ls : List Leaf} {fuel : Nat} {v : Value} {r : Reach} {b : Nat} {x : DataW H × List MemPlace} (ht : P.underlying t = some (.slice e)) (he : τ e = some te) (hls : flat τ d e = some ls)
    (hsz : ls.length = te.size) (hval : Value.okWide P w r b t v) (h : DataW.trod enc P w base spare held fuel t [v] = some x) :
    v = .slice none 0 0 ∨ ∃ (bl off len cap : Nat) (cs : List Value) (c : Array Value) (el : TypeId) (fr : Nat × Nat), v = .slice (some ⟨bl, off, none⟩) len cap ∧ len ≤ cap ∧ cap ≤ maxLen ∧ w.heap[bl]? = some (.cells c el fr) ∧
      (c.toList.drop off).take cs.length = cs ∧ RowsOk ls len cs ∧ ∃ es rs, x.1 = .slice es rs ∧ es.length = len := by
  rcases DataW.trod_slice ht h with ⟨h0, _⟩ | ⟨a, len, cap, elems, rest, n, _, h1, hxx, hb, hl, hm, hlen, hel, _, _⟩
  · left; simpa using h0
  right
  obtain rfl : v = .slice (some a) len cap := by simpa using h1
  obtain ⟨hspot, c, el, fr, hc⟩ := okWide_slice ht hval
  obtain ⟨bl, off, spot⟩ := a
  simp only at hspot hc
  subst hspot
  have hce : P.cellsOf e = ls.length := by rw [cellsOf_ok hτ he, hsz]
  have each : ∀ i, i < len → ∃ cs, (c.toList.drop (off + i * ls.length)).take ls.length = cs ∧ cs.length = ls.length ∧ RowOk ls cs := by
    intro i hi
    have := hel i hi
    obtain ⟨y, hy⟩ : ∃ y, elems[i]? = some y := ⟨elems[i]'(by omega), by simp⟩
    rw [hy, hce, Option.bind_eq_some_iff] at this
    obtain ⟨cs, h2, h3⟩ := this
    refine ⟨cs, cells_at hc h2, (World.cells?_some h2).2.1, flat_of_trod hτ d e ls n cs y hls h3⟩
  refine ⟨bl, off, len, cap, (c.toList.drop off).take (len * ls.length), c, el, fr, rfl, hl, hm, hc, ?_, ?_, _, _, by rw [hxx], by simpa using hlen⟩
  · rw [List.length_take, List.take_eq_take_iff.2]
    simp only [List.length_drop]; omega
  · have hlen : ((c.toList.drop off).take (len * ls.length)).length = len * ls.length := by
      rw [List.length_take]
      cases len with
      | zero => simp
      | succ k =>
        obtain ⟨cs, h1, h2, _⟩ := each k (by omega)
        have h3 : ls.length ≤ (c.toList.drop (off + k * ls.length)).length := by
          rw [← h1, List.length_take] at h2; omega
        have : (k + 1) * ls.length = k * ls.length + ls.length := by rw [Nat.add_mul, Nat.one_mul]
        simp only [List.length_drop] at h3 ⊢
        by_cases hz : ls.length = 0
        · rw [hz]; omega
        · omega
    refine ⟨hlen, fun i hi => ?_⟩
    obtain ⟨cs, h1, h2, h3⟩ := each i hi
    have hle : i * ls.length + ls.length ≤ len * ls.length := by
      have : (i + 1) * ls.length ≤ len * ls.length := Nat.mul_le_mul_right _ hi
      rw [Nat.add_mul, Nat.one_mul] at this; exact this
    have : (((c.toList.drop off).take (len * ls.length)).drop (i * ls.length)).take ls.length = cs := by
      rw [List.drop_take, List.take_take, List.drop_drop, ← h1]
      congr 1
      omega
    rw [this]; exact h3

theorem slice_arg (hτ : Tab P τ) {t e : TypeId} {te : TI} {d : Nat} {ls : List Leaf} {v : Value} {r : Reach} {b : Nat} {dd : DataW H} {ps : List MemPlace} (ht : P.underlying t = some (.slice e)) (he : τ e = some te) (hls : flat τ d e = some ls)
    (hsz : ls.length = te.size) (hval : Value.okWide P w r b t v) (h : DataW.Trod enc P w base spare held t v dd ps) :
    v = .slice none 0 0 ∨ ∃ (bl off len cap : Nat) (cs : List Value) (c : Array Value) (el : TypeId) (fr : Nat × Nat), v = .slice (some ⟨bl, off, none⟩) len cap ∧ len ≤ cap ∧ cap ≤ maxLen ∧ w.heap[bl]? = some (.cells c el fr) ∧
      (c.toList.drop off).take cs.length = cs ∧ RowsOk ls len cs ∧ ∃ es rs, dd = .slice es rs ∧ es.length = len := by
  obtain ⟨a, len, cap, rfl⟩ := Go.WideShapes.okWide_slice ht hval
  obtain ⟨fuel, hf⟩ := h
  exact slice_of_trod (x := (dd, ps)) hτ ht he hls hsz hval (by simpa [Value.cells] using hf)

theorem lrel_rows {ρ : Ren} {ls : List Leaf} {len : Nat} {cs : List Value} (h : RowsOk ls len cs) : LRel ρ cs cs := by
  refine ⟨rfl, fun i v v' h1 h2 => ?_⟩
  rw [h1] at h2; cases h2
  have hi := (List.getElem?_eq_some_iff.1 h1).1
  rw [h.1] at hi
  have hpos : 0 < ls.length := by
    rcases Nat.eq_zero_or_pos ls.length with h0 | h0
    · rw [h0] at hi; omega
    · exact h0
  have hd : i / ls.length < len := by rw [Nat.div_lt_iff_lt_mul hpos]; exact hi
  have hm := Nat.mod_lt i hpos
  have hrow := h.2 (i / ls.length) hd
  have hget : ((cs.drop (i / ls.length * ls.length)).take ls.length)[i % ls.length]? = some v := by
    rw [List.getElem?_take, if_pos hm, List.getElem?_drop, Nat.mul_comm, Nat.div_add_mod]; exact h1
  exact vrel_leaf (hrow.2 (i % ls.length) (ls[i % ls.length]'hm) v (by simp) hget)

/-- Rows of one integer each. -/
theorem ints_of_rows {k : IntKind} {len : Nat} {cs : List Value} (h : RowsOk [.int k] len cs) : ∃ xs : List Int, cs = xs.map (Value.int k) ∧ xs.length = len ∧ ∀ x ∈ xs, (Lit.int k x).wf = true := by
  have each : ∀ v ∈ cs, ∃ n, v = .int k n ∧ (Lit.int k n).wf = true := by
    intro v hv
    obtain ⟨i, hi⟩ := List.getElem?_of_mem hv
    have hlt := (List.getElem?_eq_some_iff.1 hi).1
    have hl := h.1
    simp only [List.length_cons, List.length_nil, Nat.zero_add, Nat.mul_one] at hl
    have hr := h.2 i (by omega)
    refine hr.2 0 (.int k) v rfl ?_
    simp only [List.length_cons, List.length_nil, Nat.zero_add, Nat.mul_one]
    rw [List.getElem?_take, if_pos (by omega), List.getElem?_drop]; exact hi
  have hl := h.1
  simp only [List.length_cons, List.length_nil, Nat.zero_add, Nat.mul_one] at hl
  clear h
  induction cs generalizing len with
  | nil => exact ⟨[], rfl, by simpa using hl, fun x hx => by cases hx⟩
  | cons v cs ih =>
    obtain ⟨xs, h1, h2, h3⟩ := ih (len := cs.length) (fun u hu => each u (List.mem_cons_of_mem _ hu)) rfl
    obtain ⟨n, rfl, hw⟩ := each v List.mem_cons_self
    refine ⟨n :: xs, by rw [h1]; rfl, by simpa [h2] using hl, fun x hx => ?_⟩
    rcases List.mem_cons.1 hx with rfl | hx
    · exact hw
    · exact h3 x hx

theorem strs_of_rows {len : Nat} {cs : List Value} (h : RowsOk [.str] len cs) : ∃ xs : List ByteArray, cs = xs.map Value.string ∧ xs.length = len ∧ ∀ x ∈ xs, x.size ≤ maxLen := by
  have each : ∀ v ∈ cs, ∃ n, v = .string n ∧ n.size ≤ maxLen := by
    intro v hv
    obtain ⟨i, hi⟩ := List.getElem?_of_mem hv
    have hlt := (List.getElem?_eq_some_iff.1 hi).1
    have hl := h.1
    simp only [List.length_cons, List.length_nil, Nat.zero_add, Nat.mul_one] at hl
    have hr := h.2 i (by omega)
    refine hr.2 0 .str v rfl ?_
    simp only [List.length_cons, List.length_nil, Nat.zero_add, Nat.mul_one]
    rw [List.getElem?_take, if_pos (by omega), List.getElem?_drop]; exact hi
  have hl := h.1
  simp only [List.length_cons, List.length_nil, Nat.zero_add, Nat.mul_one] at hl
  clear h
  induction cs generalizing len with
  | nil => exact ⟨[], rfl, by simpa using hl, fun x hx => by cases hx⟩
  | cons v cs ih =>
    obtain ⟨xs, h1, h2, h3⟩ := ih (len := cs.length) (fun u hu => each u (List.mem_cons_of_mem _ hu)) rfl
    obtain ⟨n, rfl, hw⟩ := each v List.mem_cons_self
    refine ⟨n :: xs, by rw [h1]; rfl, by simpa [h2] using hl, fun x hx => ?_⟩
    rcases List.mem_cons.1 hx with rfl | hx
    · exact hw
    · exact h3 x hx

theorem lrel_ints {ρ : Ren} {k : IntKind} (xs : List Int) : LRel ρ (xs.map (Value.int k)) (xs.map (Value.int k)) := by
  refine ⟨rfl, fun i v v' h1 h2 => ?_⟩
  rw [h1] at h2; cases h2
  rw [List.getElem?_map] at h1
  obtain ⟨x, _, rfl⟩ := Option.map_eq_some_iff.1 h1
  exact .int _ _

theorem lrel_strs {ρ : Ren} (xs : List ByteArray) : LRel ρ (xs.map Value.string) (xs.map Value.string) := by
  refine ⟨rfl, fun i v v' h1 h2 => ?_⟩
  rw [h1] at h2; cases h2
  rw [List.getElem?_map] at h1
  obtain ⟨x, _, rfl⟩ := Option.map_eq_some_iff.1 h1
  exact .string _

theorem slice_bound {es rs : List (DataW H)} {ts : List TypeId} {ds : List (DataW H)} {j : Nat} {t e : TypeId} {len by_ : Nat} (hsz : (DataW.weightsEach P ts ds).all (· ≤ reachBytes) = true) (ht : ts[j]? = some t) (hd : ds[j]? = some (.slice es rs)) (hu : P.underlying t = some (.slice e)) (hl : es.length = len) (hb : P.bytesOf e = by_) :
    len * by_ ≤ 140737488351232 := by
  have h1 := sized_slice hsz ht hd hu
  rw [hb, hl] at h1
  have h2 : len * by_ ≤ (len + rs.length) * by_ := Nat.mul_le_mul_right _ (Nat.le_add_right _ _)
  exact Nat.le_trans h2 h1

/-- Rows, as a list. -/
theorem rows_list {α : Type} (R : Rw α) {Q : α → Prop} {ls : List Leaf} {len : Nat} {cs : List Value} (hl : ls.length = R.sz) (hrow : ∀ c, RowOk ls c → ∃ a, c = R.f a ∧ Q a) (h : RowsOk ls len cs) : ∃ xs, cs = R.cells xs ∧ xs.length = len ∧ ∀ x ∈ xs, Q x := by
  induction len generalizing cs with
  | zero =>
    refine ⟨[], ?_, rfl, fun x hx => by cases hx⟩
    have := h.1
    rw [Nat.zero_mul] at this
    exact List.length_eq_zero_iff.1 this
  | succ k ih =>
    obtain ⟨a, ha, hq⟩ := hrow _ (h.2 0 (by omega))
    rw [Nat.zero_mul, List.drop_zero] at ha
    have h1 : RowsOk ls k (cs.drop ls.length) := by
      refine ⟨by rw [List.length_drop, h.1, Nat.add_mul, Nat.one_mul]; omega, fun i hi => ?_⟩
      have := h.2 (i + 1) (by omega)
      rw [List.drop_drop]
      rwa [Nat.add_mul, Nat.one_mul, Nat.add_comm] at this
    obtain ⟨xs, e1, e2, e3⟩ := ih h1
    refine ⟨a :: xs, ?_, by simp [e2], fun x hx => ?_⟩
    · have : R.cells (a :: xs) = R.f a ++ R.cells xs := rfl
      rw [this, ← ha, ← e1, List.take_append_drop]
    · rcases List.mem_cons.1 hx with rfl | hx
      · exact hq
      · exact e3 x hx

theorem flat_ints {k : IntKind} (xs : List Int) : Flat (xs.map (Value.int k)) := fun v h => by
  obtain ⟨x, _, rfl⟩ := List.mem_map.1 h; rfl
theorem flat_strs (xs : List ByteArray) : Flat (xs.map Value.string) := fun v h => by
  obtain ⟨x, _, rfl⟩ := List.mem_map.1 h; rfl
theorem leaf_flat {l : Leaf} {v : Value} (h : LeafOk l v) : flatB v = true := by
  cases l with
  | bool => obtain ⟨b, rfl⟩ := h; rfl
  | int k => obtain ⟨n, rfl, _⟩ := h; rfl
  | str => obtain ⟨s, rfl, _⟩ := h; rfl

/-- A slice among the arguments: where it lies (none: it is nil), its cells, and how many an element has. -/
structure Win where
  at_ : Option (Nat × Nat × Nat)
  cs : List Value
  sz : Nat

def WinOk (w : World) (x : Win) : Prop := Flat x.cs ∧ 0 < x.sz ∧ match x.at_ with
  | none => x.cs = []
  | some (b, o, cap) => ∃ c el fr, w.heap[b]? = some (.cells c el fr) ∧ (c.toList.drop o).take x.cs.length = x.cs

def Wins (w : World) (L : List Win) : Prop := ∀ x ∈ L, WinOk w x
theorem win_nil : Wins w [] := fun x h => by cases h
theorem win_cons {x : Win} {L : List Win} (h : WinOk w x) (t : Wins w L) : Wins w (x :: L) := fun y hy => by
  rcases List.mem_cons.1 hy with rfl | hy
  · exact h
  · exact t y hy
theorem win_at {b o cap sz : Nat} {cs : List Value} {c : Array Value} {el : TypeId} {fr : Nat × Nat} (hz : 0 < sz) (h1 : w.heap[b]? = some (.cells c el fr)) (h2 : (c.toList.drop o).take cs.length = cs) (h3 : Flat cs) : WinOk w ⟨some (b, o, cap), cs, sz⟩ := ⟨h3, hz, c, el, fr, h1, h2⟩
theorem win_none {sz : Nat} (hz : 0 < sz) : WinOk w ⟨none, [], sz⟩ := ⟨fun v h => (by cases h), hz, rfl⟩

def winSlot (x : Win) : Slot := match x.at_ with
  | none => nowhere
  | some (b, o, cap) => ⟨b, some (cap, x.sz), o⟩

def renOf (L : List Win) : Ren := fun i => (L[i]?).map winSlot
def wObjs (l : List (List Value × Nat)) : List VObj := l.map fun x => .win x.1 x.2

theorem sim_wins {L : List Win} (h : Wins w L) : Sim (renOf L) (lkp (oHeap 0 (wObjs (L.map fun x => (x.cs, x.sz))))) w := by
  have hobj : ∀ i o, lkp (oHeap 0 (wObjs (L.map fun x => (x.cs, x.sz)))) i = some o → ∃ x, L[i]? = some x ∧ o = .win x.cs x.sz := by
    intro i o hi
    obtain ⟨_, h1⟩ := lkp_oHeap hi
    rw [Nat.sub_zero, wObjs, List.map_map, List.getElem?_map] at h1
    obtain ⟨x, hx, rfl⟩ := Option.map_eq_some_iff.1 h1
    exact ⟨x, hx, rfl⟩
  constructor
  · intro i o hi
    obtain ⟨x, hx, rfl⟩ := hobj i o hi
    obtain ⟨hf, hz, ha⟩ := h x (List.mem_of_getElem? hx)
    refine ⟨winSlot x, by unfold renOf; rw [hx]; rfl, ?_⟩
    obtain ⟨at_, cs, sz⟩ := x
    cases at_ with
    | none =>
      simp only at ha; subst ha
      exact .inl ⟨rfl, rfl, .inl rfl⟩
    | some p =>
      obtain ⟨b, o, cap⟩ := p
      obtain ⟨c, el, fr, h2, h3⟩ := ha
      refine .inr ⟨gone_pos rfl hz, _, h2, .win el fr rfl hz ?_⟩
      simp only [winSlot]
      simp only at h3
      rw [h3]; exact hf.rel
  · intro i j o p s t _ hi hj _ _ _ _ hfx
    obtain ⟨x, _, rfl⟩ := hobj i o hi
    obtain ⟨y, _, rfl⟩ := hobj j p hj
    cases hfx

theorem wins_fixed {l : List (List Value × Nat)} : ∀ i o, lkp (oHeap 0 (wObjs l)) i = some o → o.fixed = true := fun i o h => by
  obtain ⟨_, h1⟩ := lkp_oHeap h
  rw [wObjs, List.getElem?_map] at h1
  obtain ⟨x, _, rfl⟩ := Option.map_eq_some_iff.1 h1; rfl

/-- A slice's name. -/
theorem rel_at {L : List Win} {i b o cap n : Nat} {cs : List Value} {sz : Nat} (h : L[i]? = some ⟨some (b, o, cap), cs, sz⟩) (hz : 0 < sz) (hn : n ≤ cap) : VRel (renOf L) (.slice (some ⟨i, 0, none⟩) n 0) (.slice (some ⟨b, o, none⟩) n cap) := by
  have := VRel.oslice (ρ := renOf L) (i := i) (off := 0) (n := n) (e := 0) (k := cap) (sz := sz) (s := ⟨b, some (cap, sz), o⟩) (by unfold renOf; rw [h]; rfl) rfl hz (by simp) (by omega)
  simpa using this
theorem rel_none {L : List Win} {i : Nat} {cs : List Value} {sz : Nat} (h : L[i]? = some ⟨none, cs, sz⟩) : VRel (renOf L) (.slice (some ⟨i, 0, none⟩) 0 0) (.slice none 0 0) := .ghost (s := nowhere) (by unfold renOf; rw [h]; rfl) rfl

theorem law_calls {F : FuncId} {args args' : List Value} {n : Nat} {v : Value} {L : List Win} (h : Tri P F args n 0 (lkp (oHeap 0 (wObjs (L.map fun x => (x.cs, x.sz))))) (fun u L => u = v ∧ L = [])) (hw : Wins w L)
    (ha : LRel (renOf L) args args') (hv : ∀ ρ u, VRel ρ v u → u = v) : Calls P F args'.toArray w fun e w' => e = .returned v ∧ Below w.heap.size w w' :=
  tri_calls h (sim_wins hw) wins_fixed ha hv

def owns (n : Nat) : List Src := (List.range n).map Src.own

theorem owns_get {n a : Nat} {s : Src} (h : (owns n)[a]? = some s) : s = .own a ∧ a < n := by
  unfold owns at h
  rw [List.getElem?_map] at h
  obtain ⟨x, hx, rfl⟩ := Option.map_eq_some_iff.1 h
  have := (List.getElem?_eq_some_iff.1 hx)
  obtain ⟨h1, h2⟩ := this
  simp only [List.getElem_range] at h2
  subst h2
  exact ⟨rfl, by simpa using h1⟩

theorem owns_R (n : Nat) : ownR (owns n) = idn n := by
  funext a
  unfold ownR idn
  by_cases ha : a < n
  · rw [if_pos ha]
    have : (owns n)[a]? = some (.own a) := by unfold owns; simp [ha]
    rw [this]
  · rw [if_neg ha]
    have : (owns n)[a]? = none := List.getElem?_eq_none (by unfold owns; simp; omega)
    rw [this]

theorem law_of_vw {m : Nat} (hτ : Tab P τ) {F : FuncId} {fn : Func} {c : Code} {args : List Value} {v : Value} (hf : P.funcs[F]? = some fn) (hb : fn.body = some c) (hm : fn.ntmps = m) (hlen : args.length ≤ m) (K : Nat) (l : List (List Value × Nat)) (hK : l.length = K)
    (hl : ∀ x ∈ l, Flat x.1) (ha : LRel (idn K) args args) (hv : VRel no v v)
    (h : VW P m K c (fun e s => (e = .normal ∨ e = .ret) ∧ evResults τ s fn.results.toList = some v) ⟨argEnv 0 args, lkp (oHeap 0 (wObjs l)), K⟩) : Tri P F args K 0 (lkp (oHeap 0 (wObjs l))) (fun u L => u = v ∧ L = []) := by
  have hget : ∀ (a : Nat) (o : VObj), (wObjs l)[a]? = some o → ∃ x, x ∈ l ∧ o = .win x.1 x.2 ∧ a < K ∧ lkp (oHeap 0 (wObjs l)) a = some o := by
    intro a o h
    have hlt := (List.getElem?_eq_some_iff.1 h).1
    have hfind : ∀ (os : List VObj) (k a : Nat) (o : VObj), os[a]? = some o → lkp (oHeap k os) (k + a) = some o := by
      intro os
      induction os with
      | nil => intro k a o h; simp at h
      | cons p os ih =>
        intro k a o h
        simp only [oHeap, lkp]
        cases a with
        | zero => simp only [List.getElem?_cons_zero, Option.some.injEq] at h; subst h; simp
        | succ a =>
          rw [if_neg (by omega), show k + (a + 1) = (k + 1) + a by omega]
          exact ih (k + 1) a o (by simpa using h)
    have h2 := hfind _ 0 a o h
    rw [Nat.zero_add] at h2
    rw [wObjs, List.getElem?_map] at h
    obtain ⟨x, hx, rfl⟩ := Option.map_eq_some_iff.1 h
    exact ⟨x, List.mem_of_getElem? hx, rfl, by simpa [wObjs, hK] using hlt, h2⟩
  refine tri_of_vw hτ hf hb hm hlen K (owns K) (wObjs l) (by simp [wObjs, hK]) ⟨fun a o h => ?_, by simp [owns, wObjs, hK], fun a b i h1 h2 => ?_, fun a b i j m sz off n c o h1 => ?_⟩ ⟨rfl, fun i x y h1 h2 => .val (by rw [owns_R]; exact ha.2 i x y h1 h2)⟩ (fun a v m sz h => ?_) ?_
  · obtain ⟨x, h1, rfl, h3, h4⟩ := hget a o h
    exact ⟨.own a, by unfold owns; simp [h3], .win x.1 x.2, h4, .win x.2 (hl x h1).rel⟩
  · have e1 := (owns_get h1).1; have e2 := (owns_get h2).1; cases e1; cases e2; rfl
  · cases (owns_get h1).1
  · cases (owns_get h).1
  · refine h.mono ?_
    rintro e s ⟨h1, h2⟩
    exact ⟨h1, v, [], no, v, ⟨rfl, rfl⟩, h2, hv, ⟨fun j t h => (by cases h), fun j t h => (by cases h), fun i j t u h => (by cases h), fun i o h => (by cases h), fun a o i ha ho => by
      obtain ⟨x, _, rfl, _⟩ := hget a o ha; cases ho⟩⟩

end
end Go.Proofs.Yticaicdopfpknaa.Vm
