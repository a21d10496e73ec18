/- Rows of cells: lists of flat elements; operations on them at places that are told by numbers. No program in it. -/
import Derived.Test.YticaicdopfpknaaVmZ
set_option linter.unusedVariables false
set_option linter.unusedSimpArgs false
namespace Go.Proofs.Yticaicdopfpknaa.Vm
open Go

structure Rw (α : Type) where
  f : α → List Value
  sz : Nat
  len : ∀ a, (f a).length = sz
  flat : ∀ a, Flat (f a)
  pos : 0 < sz

def Rw.cells {α : Type} (R : Rw α) (xs : List α) : List Value := xs.flatMap R.f

section
variable {α : Type} (R : Rw α)

theorem Rw.length (xs : List α) : (R.cells xs).length = xs.length * R.sz := by
  unfold Rw.cells
  induction xs with
  | nil => simp
  | cons a xs ih => simp only [List.flatMap_cons, List.length_append, R.len, ih, List.length_cons, Nat.add_mul, Nat.one_mul]; omega
theorem Rw.append (xs ys : List α) : R.cells (xs ++ ys) = R.cells xs ++ R.cells ys := by unfold Rw.cells; simp
theorem Rw.flat_cells (xs : List α) : Flat (R.cells xs) := fun v h => by
  obtain ⟨a, _, h2⟩ := List.mem_flatMap.1 h
  exact R.flat a v h2
theorem Rw.drop : ∀ (xs : List α) (k : Nat), (R.cells xs).drop (k * R.sz) = R.cells (xs.drop k)
  | xs, 0 => by simp
  | [], k + 1 => by simp [Rw.cells]
  | a :: xs, k + 1 => by
    have : R.cells (a :: xs) = R.f a ++ R.cells xs := rfl
    rw [this, Nat.add_mul, Nat.one_mul, Nat.add_comm, ← List.drop_drop, List.drop_left' (R.len a), Rw.drop xs k]; rfl
theorem Rw.take : ∀ (xs : List α) (k : Nat), (R.cells xs).take (k * R.sz) = R.cells (xs.take k)
  | xs, 0 => by simp [Rw.cells]
  | [], k + 1 => by simp [Rw.cells]
  | a :: xs, k + 1 => by
    have : R.cells (a :: xs) = R.f a ++ R.cells xs := rfl
    have h2 : (R.f a ++ R.cells xs).take (R.sz + k * R.sz) = R.f a ++ (R.cells xs).take (k * R.sz) := by
      have := List.take_length_add_append (l₁ := R.f a) (l₂ := R.cells xs) (i := k * R.sz)
      rw [R.len] at this; exact this
    rw [this, Nat.add_mul, Nat.one_mul, Nat.add_comm, h2, Rw.take xs k]; rfl
theorem Rw.window (xs : List α) (p m : Nat) : ((R.cells xs).drop (p * R.sz)).take (m * R.sz) = R.cells ((xs.drop p).take m) := by rw [R.drop, R.take]
theorem Rw.row {xs : List α} {j : Nat} {a : α} (h : xs[j]? = some a) : ((R.cells xs).drop (j * R.sz)).take R.sz = R.f a := by
  have h1 := R.window xs j 1
  rw [Nat.one_mul] at h1
  rw [h1]
  have : (xs.drop j).take 1 = [a] := by
    rw [List.take_one, List.head?_drop, h]; rfl
  rw [this]; simp [Rw.cells]
theorem Rw.cell {xs : List α} {j q : Nat} {a : α} {v : Value} (h : xs[j]? = some a) (hv : (R.f a)[q]? = some v) : (R.cells xs)[j * R.sz + q]? = some v := by
  have h1 := R.row h
  have hq : q < R.sz := by rw [← R.len a]; exact (List.getElem?_eq_some_iff.1 hv).1
  rw [← h1, List.getElem?_take, if_pos hq, List.getElem?_drop] at hv
  exact hv
theorem Rw.set {xs : List α} {j : Nat} (hj : j < xs.length) (a : α) : splice (R.cells xs) (j * R.sz) (R.f a) = R.cells (xs.set j a) := by
  unfold splice
  rw [R.len, R.take, show j * R.sz + R.sz = (j + 1) * R.sz by rw [Nat.add_mul, Nat.one_mul], R.drop, List.set_eq_take_append_cons_drop, if_pos hj]
  have : R.cells (xs.take j ++ a :: xs.drop (j + 1)) = R.cells (xs.take j) ++ (R.f a ++ R.cells (xs.drop (j + 1))) := by rw [R.append]; rfl
  rw [this, List.append_assoc]
theorem Rw.splice (xs ys : List α) (p : Nat) : splice (R.cells xs) (p * R.sz) (R.cells ys) = R.cells (xs.take p ++ ys ++ xs.drop (p + ys.length)) := by
  unfold Vm.splice
  rw [R.length, ← Nat.add_mul, R.take, R.drop, R.append, R.append]
/-- A cell of an element is set. -/
theorem Rw.set_cell {xs : List α} {j q : Nat} {a b : α} {v : Value} (hj : xs[j]? = some a) (hb : (R.f a).set q v = R.f b) (hq : q < R.sz) : (R.cells xs).set (j * R.sz + q) v = R.cells (xs.set j b) := by
  have hlt := (List.getElem?_eq_some_iff.1 hj).1
  rw [← R.set hlt b, ← hb]
  have hrow := R.row hj
  have hl := R.length xs
  have hle : j * R.sz + R.sz ≤ (R.cells xs).length := by
    rw [hl, show j * R.sz + R.sz = (j + 1) * R.sz by rw [Nat.add_mul, Nat.one_mul]]; exact Nat.mul_le_mul_right _ hlt
  apply List.ext_getElem?
  intro i
  unfold Vm.splice
  rw [List.length_set, R.len]
  by_cases h1 : i < j * R.sz
  · rw [List.getElem?_set_ne (by omega), List.append_assoc, List.getElem?_append_left (by simp; omega), List.getElem?_take, if_pos h1]
  · by_cases h2 : i < j * R.sz + R.sz
    · have e : i = j * R.sz + (i - j * R.sz) := by omega
      rw [List.append_assoc, List.getElem?_append_right (by simp; omega), List.getElem?_append_left (by simp [R.len]; omega)]
      have hlen : ((R.cells xs).take (j * R.sz)).length = j * R.sz := by simp; omega
      rw [hlen]
      by_cases h3 : i = j * R.sz + q
      · subst h3
        rw [List.getElem?_set_self (by omega), show j * R.sz + q - j * R.sz = q by omega, List.getElem?_set_self (by rw [R.len]; omega)]
      · rw [List.getElem?_set_ne (by omega), List.getElem?_set_ne (by omega), ← hrow, List.getElem?_take, if_pos (by omega), List.getElem?_drop, ← e]
    · rw [List.getElem?_set_ne (by omega), List.getElem?_append_right (by simp [R.len]; omega), List.getElem?_drop]
      congr 1
      simp [R.len]; omega
theorem Rw.one (xs : List α) : (R.cells xs).all Value.oneCell' = true := by
  rw [List.all_eq_true]
  intro v hv
  have := R.flat_cells xs v hv
  cases v <;> first | rfl | cases this

/-- One integer a row. -/
def intR (k : IntKind) : Rw Int := ⟨fun x => [.int k x], 1, fun _ => rfl, fun _ v h => by simp only [List.mem_singleton] at h; subst h; rfl, by decide⟩
theorem intR_cells (k : IntKind) (xs : List Int) : (intR k).cells xs = xs.map (Value.int k) := by
  unfold Rw.cells intR; induction xs with
  | nil => rfl
  | cons a xs ih => simp only [List.flatMap_cons, ih, List.map_cons, List.singleton_append]
def strR : Rw ByteArray := ⟨fun x => [.string x], 1, fun _ => rfl, fun _ v h => by simp only [List.mem_singleton] at h; subst h; rfl, by decide⟩
theorem strR_cells (xs : List ByteArray) : strR.cells xs = xs.map Value.string := by
  unfold Rw.cells strR; induction xs with
  | nil => rfl
  | cons a xs ih => simp only [List.flatMap_cons, ih, List.map_cons, List.singleton_append]
end

section
variable {α : Type} (R : Rw α) {P : Program} {τ : Nat → Option TI} {env : List (Nat × Value)} {V : Heap} {n : Nat}

theorem ev_loadrow {t b p j : Nat} {x : Operand} {ti : TI} {xs : List α} {a : α} (hx : rd env x = some (.pointer (some ⟨b, p, none⟩))) (hp : p = 0 + j * R.sz) (ht : τ t = some ti) (ha : isAggB ti.desc = true) (hs : ti.size = R.sz)
    (hV : (V b).bind cellsOf = some (R.cells xs)) (hj : xs[j]? = some a) : evOp τ env V n (.load t x) = some ⟨.agg (R.f a).toArray, [], 0, [b]⟩ := by
  subst hp
  have hlt := (List.getElem?_eq_some_iff.1 hj).1
  have hle : 0 + j * R.sz + R.sz ≤ (R.cells xs).length := by
    rw [R.length, Nat.zero_add, show j * R.sz + R.sz = (j + 1) * R.sz by rw [Nat.add_mul, Nat.one_mul]]; exact Nat.mul_le_mul_right _ hlt
  have hrow := R.row hj
  simp only [evOp, hx, Option.bind_some, evLoad, ht, hV, ha, if_true, hs]
  rw [if_pos hle, Nat.zero_add, hrow]; rfl

/-- A cell of an element. -/
theorem ev_loadcell {t b p j q : Nat} {x : Operand} {ti : TI} {xs : List α} {a : α} {v : Value} (hx : rd env x = some (.pointer (some ⟨b, p, none⟩))) (hp : p = 0 + j * R.sz + q) (ht : τ t = some ti) (ha : isAggB ti.desc = false)
    (hV : (V b).bind cellsOf = some (R.cells xs)) (hj : xs[j]? = some a) (hv : (R.f a)[q]? = some v) : evOp τ env V n (.load t x) = some ⟨v, [], 0, [b]⟩ := by
  subst hp
  exact ev_load1 hx ht ha hV (by rw [Nat.zero_add]; exact R.cell hj hv)

theorem ev_val {t b p j : Nat} {x : Operand} {ti : TI} {xs : List α} {a : α} {v : Value} (hx : rd env x = some (.pointer (some ⟨b, p, none⟩))) (hp : p = 0 + j * R.sz) (ht : τ t = some ti) (ha : isAggB ti.desc = false)
    (hV : (V b).bind cellsOf = some (R.cells xs)) (hj : xs[j]? = some a) (hv : (R.f a)[0]? = some v) : evOp τ env V n (.load t x) = some ⟨v, [], 0, [b]⟩ :=
  ev_loadcell R (q := 0) hx hp ht ha hV hj hv

def plainB : Value → Value → Bool
  | .int _ _, _ => false
  | _, .int _ _ => false
  | .string _, _ => false
  | _, .string _ => false
  | .nilIface, .nilIface => false
  | _, _ => true
theorem plain_both {a b : Value} (h : plainB a b = true) : bothNil a b = false := by cases a <;> cases b <;> first | rfl | cases h
theorem bin_neq {a b : Value} {t : Nat} {l : Bool} (h : plainB a b = true) : evBin τ .neq t l a b = if bothNil a b then (if l && isIface τ t then some (.bool false) else none) else (evEq τ 50 t a b).map fun b => .bool (!b) := by
  cases a <;> cases b <;> first | rfl | cases h
theorem bin_eql {a b : Value} {t : Nat} {l : Bool} (h : plainB a b = true) : evBin τ .eql t l a b = if bothNil a b then (if l && isIface τ t then some (.bool true) else none) else (evEq τ 50 t a b).map .bool := by
  cases a <;> cases b <;> first | rfl | cases h
theorem ev_neq {t u : Nat} {x y : Operand} {a b : Value} {c : Bool} (hx : rd env x = some a) (hy : rd env y = some b) (hp : plainB a b = true) (h : evEq τ 50 t a b = some c) : evOp τ env V n (.binOp .neq t x y u) = some ⟨.bool (!c), [], 0, []⟩ := by
  simp only [evOp, hx, hy, bin_neq hp, plain_both hp, h]; rfl
theorem ev_eql {t u : Nat} {x y : Operand} {a b : Value} {c : Bool} (hx : rd env x = some a) (hy : rd env y = some b) (hp : plainB a b = true) (h : evEq τ 50 t a b = some c) : evOp τ env V n (.binOp .eql t x y u) = some ⟨.bool c, [], 0, []⟩ := by
  simp only [evOp, hx, hy, bin_eql hp, plain_both hp, h]; rfl

/-- What is appended: rows. -/
theorem news_rows {j p m c : Nat} {zs : List α} (hV : (V j).bind cellsOf = some (R.cells zs)) (hle : p + m ≤ zs.length) : evNews V R.sz (.slice (some ⟨j, 0 + p * R.sz, none⟩) m c) = some (R.cells ((zs.drop p).take m), m, [j]) := by
  have h1 : 0 + p * R.sz + m * R.sz ≤ (R.cells zs).length := by rw [R.length, Nat.zero_add, ← Nat.add_mul]; exact Nat.mul_le_mul_right _ hle
  simp only [evNews, hV]
  rw [if_pos h1, Nat.zero_add, R.window]
theorem news_all {j m c : Nat} {zs : List α} (hV : (V j).bind cellsOf = some (R.cells zs)) (hm : m = zs.length) : evNews V R.sz (.slice (some ⟨j, 0, none⟩) m c) = some (R.cells zs, m, [j]) := by
  have := news_rows (V := V) R (c := c) (p := 0) (m := m) hV (by omega)
  simp only [Nat.zero_mul, Nat.add_zero, List.drop_zero] at this
  rw [this, hm, List.take_length]

theorem ev_append {t e i l cap m : Nat} {x y : Operand} {ti te : TI} {b : Value} {xs ys : List α} {rs : List Nat} (hx : rd env x = some (.slice (some ⟨i, 0, none⟩) l cap)) (hy : rd env y = some b) (ht : τ t = some ti) (hd : ti.desc = .slice e) (he : τ e = some te) (hs : te.size = R.sz)
    (hnews : evNews V R.sz b = some (R.cells ys, m, rs)) (hV : V i = some (.opn (R.cells xs) e R.sz)) (hl : l ≤ xs.length) (hb : (l + m) * te.bytes ≤ 140737488355328) (hb' : l + m ≤ 140737488355328) :
    evOp τ env V n (.call { callee := .builtin .append, args := #[x, y], argTypes := #[t, t] }) = some ⟨.slice (some ⟨n, 0, none⟩) (l + m) 0, [(i, none), (n, some (.opn (R.cells (xs.take l ++ ys)) e R.sz))], 1, i :: rs⟩ := by
  have h1 : 0 < R.sz ∧ (R.cells ys).all Value.oneCell' = true := ⟨R.pos, R.one ys⟩
  have h2 : l * R.sz ≤ (R.cells xs).length := by rw [R.length]; exact Nat.mul_le_mul_right _ hl
  simp only [evOp, List.map_cons, List.map_nil, hx, hy, if_true, evAppend, ht, hd, he, hs, hnews]
  rw [if_pos h1]
  simp only [hb, hb', and_self, if_true, hV]
  rw [if_pos ⟨trivial, trivial, h2⟩, R.take, ← R.append]

/-- Onto a whole one. -/
theorem ev_app {t e i l cap m : Nat} {x y : Operand} {ti te : TI} {b : Value} {xs ys : List α} {rs : List Nat} (hx : rd env x = some (.slice (some ⟨i, 0, none⟩) l cap)) (hy : rd env y = some b) (ht : τ t = some ti) (hd : ti.desc = .slice e) (he : τ e = some te) (hs : te.size = R.sz)
    (hnews : evNews V R.sz b = some (R.cells ys, m, rs)) (hV : V i = some (.opn (R.cells xs) e R.sz)) (hl : l = xs.length) (hb : (l + m) * te.bytes ≤ 140737488355328) (hb' : l + m ≤ 140737488355328) :
    evOp τ env V n (.call { callee := .builtin .append, args := #[x, y], argTypes := #[t, t] }) = some ⟨.slice (some ⟨n, 0, none⟩) (l + m) 0, [(i, none), (n, some (.opn (R.cells (xs ++ ys)) e R.sz))], 1, i :: rs⟩ := by
  rw [ev_append R hx hy ht hd he hs hnews hV (Nat.le_of_eq hl) hb hb', hl, List.take_length]

theorem ev_append_nil {t e m : Nat} {x y : Operand} {ti te : TI} {b : Value} {ys : List α} {rs : List Nat} (hx : rd env x = some (.slice none 0 0)) (hy : rd env y = some b) (ht : τ t = some ti) (hd : ti.desc = .slice e) (he : τ e = some te) (hs : te.size = R.sz)
    (hnews : evNews V R.sz b = some (R.cells ys, m, rs)) (hb : m * te.bytes ≤ 140737488355328) (hb' : m ≤ 140737488355328) :
    evOp τ env V n (.call { callee := .builtin .append, args := #[x, y], argTypes := #[t, t] }) = some ⟨.slice (some ⟨n, 0, none⟩) m 0, [(n, some (.opn (R.cells ys) e R.sz))], 1, rs⟩ := by
  have h1 : 0 < R.sz ∧ (R.cells ys).all Value.oneCell' = true := ⟨R.pos, R.one ys⟩
  simp only [evOp, List.map_cons, List.map_nil, hx, hy, if_true, evAppend, ht, hd, he, hs, hnews]
  rw [if_pos h1]
  simp only [hb, hb', and_self, if_true]

/-- A cell of an element is written. -/
theorem ev_storecell {t b p j q : Nat} {x y : Operand} {ti : TI} {xs : List α} {a a' : α} {v : Value} {e : TypeId} (hx : rd env x = some (.pointer (some ⟨b, p, none⟩))) (hy : rd env y = some v) (hp : p = 0 + j * R.sz + q) (ht : τ t = some ti) (hs : ti.size = 1) (hV : V b = some (.opn (R.cells xs) e R.sz))
    (hj : xs[j]? = some a) (hf : flatB v = true) (hb : (R.f a).set q v = R.f a') (hq : q < R.sz) : evOp τ env V n (.store t x y) = some ⟨undef, [(b, some (.opn (R.cells (xs.set j a')) e R.sz))], 0, [b]⟩ := by
  subst hp
  have hlt := (List.getElem?_eq_some_iff.1 hj).1
  have hle : 0 + j * R.sz + q + 1 ≤ (R.cells xs).length := by
    have := Nat.mul_le_mul_right R.sz hlt
    rw [R.length]; rw [Nat.succ_mul] at this; omega
  have hc : v.cells = #[v] := by cases v <;> first | rfl | cases hf
  have h1 : v.cells.size = 1 ∧ 0 + j * R.sz + q + 1 ≤ (R.cells xs).length ∧ v.cells.toList.all Value.oneCell' = true := ⟨by rw [hc]; rfl, hle, by rw [hc]; cases v <;> first | rfl | cases hf⟩
  simp only [evOp, hx, hy, evStore, ht, hV, hs]
  rw [if_pos h1, hc]
  simp only [setCells]
  rw [Nat.zero_add, R.set_cell hj hb hq]

/-- An element is written. -/
theorem ev_storerow {t b p j : Nat} {x y : Operand} {ti : TI} {xs : List α} {a' : α} {e : TypeId} (hx : rd env x = some (.pointer (some ⟨b, p, none⟩))) (hy : rd env y = some (.agg (R.f a').toArray)) (hp : p = 0 + j * R.sz) (ht : τ t = some ti) (hs : ti.size = R.sz) (hV : V b = some (.opn (R.cells xs) e R.sz))
    (hj : j < xs.length) : evOp τ env V n (.store t x y) = some ⟨undef, [(b, some (.opn (R.cells (xs.set j a')) e R.sz))], 0, [b]⟩ := by
  subst hp
  have hle : 0 + j * R.sz + R.sz ≤ (R.cells xs).length := by
    have := Nat.mul_le_mul_right R.sz hj
    rw [R.length]; rw [Nat.succ_mul] at this; omega
  have hone : (R.f a').all Value.oneCell' = true := by
    have := R.one [a']
    simpa [Rw.cells] using this
  have h1 : (R.f a').toArray.size = R.sz ∧ 0 + j * R.sz + R.sz ≤ (R.cells xs).length ∧ (R.f a').all Value.oneCell' = true := ⟨by simp [R.len], hle, hone⟩
  simp only [evOp, hx, hy, evStore, ht, hV, hs, Value.cells]
  rw [if_pos h1]
  have hset : setCells (R.cells xs) (0 + j * R.sz) (R.f a') = R.cells (xs.set j a') := by
    rw [setCells_eq _ _ _ (by rw [R.len]; exact hle), Nat.zero_add, R.set hj]
  rw [hset]

/-- A part of an open slice. -/
theorem ev_slice {t e i p len : Nat} {x : Operand} {lo hi : Option Operand} {ti te : TI} {xs : List α} {l h : Nat} (hx : rd env x = some (.slice (some ⟨i, 0 + p * R.sz, none⟩) len 0)) (ht : τ t = some ti) (hd : ti.desc = .slice e) (he : τ e = some te) (hs : te.size = R.sz)
    (hV : V i = some (.opn (R.cells xs) e R.sz)) (hlo : bnd 0 (lo.map (rd env)) = some l) (hhi : bnd len (hi.map (rd env)) = some h) (hlh : l ≤ h) (hh : p + h ≤ xs.length) (hne : l < h ∨ l = 0) :
    evOp τ env V n (.slice t x lo hi none) = some ⟨.slice (some ⟨i, 0 + (p + l) * R.sz, none⟩) (h - l) 0, [], 0, [i]⟩ := by
  have h1 : l ≤ h ∧ 0 + p * R.sz + h * R.sz ≤ (R.cells xs).length ∧ R.sz = R.sz ∧ 0 < R.sz ∧ (l < h ∨ l = 0) :=
    ⟨hlh, by rw [R.length, Nat.zero_add, ← Nat.add_mul]; exact Nat.mul_le_mul_right _ hh, rfl, R.pos, hne⟩
  simp only [evOp, hx, Option.bind_some, evSlice, ht, hd, hlo, hhi, he, hV]
  rw [hs, if_pos h1, Nat.add_mul, Nat.add_assoc]

theorem ev_slice_win {t e i p len : Nat} {x : Operand} {lo hi : Option Operand} {ti te : TI} {xs : List α} {l h : Nat} (hx : rd env x = some (.slice (some ⟨i, 0 + p * R.sz, none⟩) len 0)) (ht : τ t = some ti) (hd : ti.desc = .slice e) (he : τ e = some te) (hs : te.size = R.sz)
    (hV : V i = some (.win (R.cells xs) R.sz)) (hlo : bnd 0 (lo.map (rd env)) = some l) (hhi : bnd len (hi.map (rd env)) = some h) (hlh : l ≤ h) (hh : h ≤ len) (hne : l < h ∨ l = 0) :
    evOp τ env V n (.slice t x lo hi none) = some ⟨.slice (some ⟨i, 0 + (p + l) * R.sz, none⟩) (h - l) 0, [], 0, [i]⟩ := by
  have h1 : l ≤ h ∧ h ≤ len ∧ R.sz = R.sz ∧ True ∧ (l < h ∨ l = 0) := ⟨hlh, hh, rfl, trivial, hne⟩
  simp only [evOp, hx, Option.bind_some, evSlice, ht, hd, hlo, hhi, he, hV]
  rw [hs, if_pos h1, Nat.add_mul, Nat.add_assoc]

/-- A look at a whole slice. -/
theorem looks_opn {i m : Nat} {e : TypeId} {xs : List α} (hV : V i = some (.opn (R.cells xs) e R.sz)) (hm : m = xs.length) : Looks V R.sz (.slice (some ⟨i, 0, none⟩) m 0) (R.cells xs) m := by
  have := Looks.opn (V := V) (i := i) (off := 0) (m := m) hV R.pos (by rw [R.length, hm]; omega)
  rw [List.drop_zero, R.take, hm, List.take_length] at this
  rw [hm]; exact this
theorem looks_of {V : Heap} {sz m m' : Nat} {v : Value} {c : List Value} (h : Looks V sz v c m) (e : m = m') : Looks V sz v c m' := e ▸ h
theorem looks_win {i m : Nat} {xs : List α} (hV : V i = some (.win (R.cells xs) R.sz)) (hm : m = xs.length) : Looks V R.sz (.slice (some ⟨i, 0, none⟩) m 0) (R.cells xs) m := by
  have := Looks.win (V := V) (i := i) (off := 0) (m := m) hV R.pos (by rw [R.length, hm]; omega)
  rw [List.drop_zero, R.take, hm, List.take_length] at this
  rw [hm]; exact this
/-- At a part of one. -/
theorem looks_part {i p m : Nat} {e : TypeId} {xs : List α} (hV : V i = some (.opn (R.cells xs) e R.sz)) (hm : p + m ≤ xs.length) : Looks V R.sz (.slice (some ⟨i, 0 + p * R.sz, none⟩) m 0) (R.cells ((xs.drop p).take m)) m := by
  have := Looks.opn (V := V) (i := i) (off := 0 + p * R.sz) (m := m) hV R.pos (by rw [R.length, Nat.zero_add, ← Nat.add_mul]; exact Nat.mul_le_mul_right _ hm)
  rw [Nat.zero_add] at this ⊢
  rw [R.window] at this
  exact this
theorem looks_prefix {i m : Nat} {e : TypeId} {xs : List α} (hV : V i = some (.opn (R.cells xs) e R.sz)) (hm : m ≤ xs.length) : Looks V R.sz (.slice (some ⟨i, 0, none⟩) m 0) (R.cells (xs.take m)) m := by
  have := looks_part (V := V) R (p := 0) (m := m) hV (by omega)
  simpa using this

theorem looks_front {i m : Nat} {e : TypeId} {xs ys : List α} (hV : V i = some (.opn (R.cells (xs ++ ys)) e R.sz)) (hm : m = xs.length) : Looks V R.sz (.slice (some ⟨i, 0, none⟩) m 0) (R.cells xs) m := by
  have := looks_prefix R hV (m := m) (by rw [hm]; simp)
  rw [hm, List.take_left'] at this
  · rw [hm]; exact this
  · rfl
theorem sigma_new {src : List Src} {ids : List Nat} {i x : Nat} (hin : ∀ j ∈ ownNames src, j < n) (h : ids[i]? = some x) : sigma src n ids (n + i) = some (nameOf x) := by
  unfold sigma
  cases hp : place 0 src (n + i) with
  | some a =>
    have := (place_some hp).2
    rw [Nat.sub_zero] at this
    have := hin _ (own_mem this)
    omega
  | none => simp [h]
theorem sigma_own {src : List Src} {ids : List Nat} {a j : Nat} (hn : (ownNames src).Nodup) (h : src[a]? = some (.own j)) (hni : a ∉ ids := by decide) : sigma src n ids j = some ⟨a, none, 0⟩ := by
  unfold sigma
  rw [place_of hn h, Nat.zero_add]
  simp only [if_neg hni]
theorem rel_slice {σ : Ren} {i j off m m' c : Nat} (h : σ i = some ⟨j, none, 0⟩) (hm : m = m') : VRel σ (.slice (some ⟨i, off, none⟩) m c) (.slice (some ⟨j, off, none⟩) m' c) := by
  have := VRel.slice (n := m) (c := c) (off := off) h rfl
  subst hm
  simpa using this
theorem bnd_nat {d : Nat} (k : Nat) : bnd d (some (some (.int .i64 (k : Int)))) = some k := by
  unfold bnd
  simp
theorem bnd_int {d : Nat} {i : Int} (h : 0 ≤ i) : bnd d (some (some (.int .i64 i))) = some i.toNat := by
  unfold bnd
  simp [h]
theorem rel_ptr {σ : Ren} {i j off : Nat} (h : σ i = some ⟨j, none, 0⟩) : VRel σ (.pointer (some ⟨i, off, none⟩)) (.pointer (some ⟨j, off, none⟩)) := by
  have := VRel.ptr (off := off) h rfl
  simpa using this
theorem ov_opn {α : Type} (R : Rw α) {σ : Ren} {xs ys : List α} {e sz : Nat} (h : xs = ys) : OV σ (.opn (R.cells xs) e sz) (.opn (R.cells ys) e sz) := by rw [h]; exact .opn _ _ (R.flat_cells _).rel
theorem ow_front {α : Type} (R : Rw α) {σ : Ren} {xs ys zs : List α} {e sz : Nat} (h : ys = xs ++ zs) : OW σ (.opn (R.cells xs) e sz) (.opn (R.cells ys) e sz) := by
  rw [h, R.append]; exact .cut _ _ (R.flat_cells _).rel
theorem ov_cells {σ : Ren} {c : List Value} (e : TypeId) (fr : Nat × Nat) (h : c.all flatB = true) : OV σ (.cells c e fr) (.cells c e fr) := .cells _ _ (Flat.rel (List.all_eq_true.1 h))
theorem ov_win {α : Type} (R : Rw α) {σ : Ren} {xs : List α} {sz : Nat} : OV σ (.win (R.cells xs) sz) (.win (R.cells xs) sz) := .win _ (R.flat_cells _).rel
def SeenAll (V : Heap) (args : List Value) (src : List Src) : Prop := ∀ (a : Nat) (v : Value) (m sz : Nat), src[a]? = some (Src.look v m sz) → Seen V args v
theorem sn_nil {args : List Value} : SeenAll V args [] := fun a v m sz h => by simp at h
theorem sn_look {args : List Value} {v : Value} {m sz : Nat} {src : List Src} (h : Seen V args v) (t : SeenAll V args src) : SeenAll V args (.look v m sz :: src) := fun a u m' sz' h' => by
  cases a with
  | zero => simp only [List.getElem?_cons_zero, Option.some.injEq, Src.look.injEq] at h'; rw [← h'.1]; exact h
  | succ a => exact t a u m' sz' (by simpa using h')
theorem sn_own {args : List Value} {i : Nat} {src : List Src} (t : SeenAll V args src) : SeenAll V args (.own i :: src) := fun a u m' sz' h' => by
  cases a with
  | zero => simp at h'
  | succ a => exact t a u m' sz' (by simpa using h')
theorem seen_of {args : List Value} {src : List Src} (h : SeenAll V args src) : ∀ (a : Nat) (v : Value) (m sz : Nat), src[a]? = some (Src.look v m sz) → Seen V args v := h
theorem apart_one {l : List Nat} {i : Nat} (h : ∀ x ∈ l, x ≠ i) : ∀ x ∈ l, x ∉ [i] := fun x hx hm => h x hx (by simpa using hm)
theorem nameOf_lt {x : Nat} (h : x < 1000000) : nameOf x = ⟨x, none, 0⟩ := by unfold nameOf NIL; rw [if_neg (by omega)]
theorem sigma_look {src : List Src} {ids : List Nat} {i x : Nat} (h : ids[i]? = some x) (h0 : ownNames src = [] := by rfl) (hx : x < 1000000 := by decide) : sigma src n ids (n + i) = some ⟨x, none, 0⟩ := by
  rw [← nameOf_lt hx]; exact sigma_new (by rw [h0]; simp) h
theorem sigma_nil {src : List Src} {ids : List Nat} {i : Nat} (h : ids[i]? = some NIL) (h0 : ownNames src = [] := by rfl) : sigma src n ids (n + i) = some nowhere := sigma_new (by rw [h0]; simp) h
theorem sigma_at {src : List Src} {ids : List Nat} {i x : Nat} (hin : ∀ j ∈ ownNames src, j < n) (h : ids[i]? = some x) (hx : x < 1000000 := by decide) : sigma src n ids (n + i) = some ⟨x, none, 0⟩ := by
  rw [← nameOf_lt hx]; exact sigma_new hin h
theorem sigma_none {src : List Src} {ids : List Nat} {i : Nat} (hin : ∀ j ∈ ownNames src, j < n) (h : ids[i]? = some NIL) : sigma src n ids (n + i) = some nowhere := sigma_new hin h
theorem rel_nil {σ : Ren} {i m : Nat} (h : σ i = some nowhere) (hm : m = 0) : VRel σ (.slice (some ⟨i, 0, none⟩) m 0) (.slice none 0 0) := by subst hm; exact .ghost h rfl
end
end Go.Proofs.Yticaicdopfpknaa.Vm
