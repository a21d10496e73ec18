/- Lists one by one. -/
import Derived.Test.YtcjfidfealifhaaVg1
namespace Go.Proofs.Ytcjfidfealifhaa
open Go Vm
theorem take_same {α : Type} {xs ys : List α} {i : Nat} {a b : α} (ha : xs[i]? = some a) (hb : ys[i]? = some b) (h : xs.take i = ys.take i) (hab : a = b) : xs.take (i + 1) = ys.take (i + 1) := by
  rw [List.take_add_one, List.take_add_one, ha, hb, h, hab]
theorem take_diff {α : Type} {xs ys : List α} {i : Nat} {a b : α} (ha : xs[i]? = some a) (hb : ys[i]? = some b) (hab : a ≠ b) : xs ≠ ys := by
  rintro rfl; rw [ha] at hb; cases hb; exact hab rfl
theorem mapped_get {α : Type} {xs : List α} {i : Nat} {a : α} {f : α → α} (h : xs[i]? = some a) : ((xs.take i).map f ++ xs.drop i)[i]? = some a := by
  have hi := (List.getElem?_eq_some_iff.1 h).1
  rw [List.getElem?_append_right (by simp; omega)]
  simp only [List.length_map, List.length_take, List.getElem?_drop]
  rw [show i + (i - min i xs.length) = i by omega]; exact h
theorem mapped_set {α : Type} {xs : List α} {i : Nat} {a : α} {f : α → α} (h : xs[i]? = some a) : ((xs.take i).map f ++ xs.drop i).set i (f a) = (xs.take (i + 1)).map f ++ xs.drop (i + 1) := by
  have hi := (List.getElem?_eq_some_iff.1 h).1
  have hd : xs.drop i = a :: xs.drop (i + 1) := by rw [List.drop_eq_getElem_cons hi, (List.getElem?_eq_some_iff.1 h).2]
  rw [List.set_append_right _ _ (by simp; omega)]
  have : i - ((xs.take i).map f).length = 0 := by simp; omega
  rw [this, hd, List.take_add_one, h]
  simp
theorem mapped_len {α : Type} {xs : List α} {i : Nat} {f : α → α} : ((xs.take i).map f ++ xs.drop i).length = xs.length := by simp; omega
end Go.Proofs.Ytcjfidfealifhaa
