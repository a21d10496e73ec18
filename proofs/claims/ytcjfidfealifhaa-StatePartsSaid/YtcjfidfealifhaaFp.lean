/- Numbers and texts as bytes, and rows of them: plain laws. No program in it. -/
import Derived.Test.YtcjfidfealifhaaVg1
namespace Go.Proofs.Ytcjfidfealifhaa
set_option linter.unusedVariables false
set_option linter.unusedSimpArgs false
abbrev Bs := List UInt8
def byt (x : Int) (j : Nat) : UInt8 := UInt8.ofNat (x.toNat / 256 ^ j % 256)
def wid (x : Int) : Nat := if x < 1 then 0 else if x < 256 then 1 else if x < 65536 then 2 else if x < 16777216 then 3 else 4
def numL (x : Int) : Bs := if x < 1 then [0] else if x < 256 then [1, byt x 0] else if x < 65536 then [2, byt x 1, byt x 0] else if x < 16777216 then [3, byt x 2, byt x 1, byt x 0] else [4, byt x 3, byt x 2, byt x 1, byt x 0]
def okN (x : Int) : Bool := decide (0 ≤ x) && decide (x ≤ 1073741823)
theorem okN_iff {x : Int} : okN x = true ↔ 0 ≤ x ∧ x ≤ 1073741823 := by unfold okN; simp
theorem okN_no {x : Int} : okN x = false ↔ x < 0 ∨ 1073741823 < x := by
  rw [← Bool.not_eq_true, okN_iff]; omega
def be (l : Bs) : Int := l.foldl (fun x b => x * 256 + (b.toNat : Int)) 0
theorem be_snoc (l : Bs) (b : UInt8) : be (l ++ [b]) = be l * 256 + (b.toNat : Int) := by unfold be; rw [List.foldl_append]; rfl
theorem byt_toNat (x : Int) (j : Nat) : (byt x j).toNat = x.toNat / 256 ^ j % 256 := by
  unfold byt; rw [UInt8.toNat_ofNat']; omega
theorem byt_eq {x : Int} {j : Nat} {b : UInt8} (h : x.toNat / 256 ^ j % 256 = b.toNat) : byt x j = b := by
  apply UInt8.toNat_inj.1; rw [byt_toNat, h]
theorem be_next {l : Bs} {j : Nat} {b : UInt8} (h : l[j]? = some b) : be (l.take (j + 1)) = be (l.take j) * 256 + (b.toNat : Int) := by
  rw [List.take_add_one, h]; exact be_snoc _ _
theorem be_bound (l : Bs) : ∀ (j : Nat), j ≤ l.length → 0 ≤ be (l.take j) ∧ be (l.take j) < 256 ^ j
  | 0, _ => ⟨by simp [be], by simp [be]⟩
  | j + 1, h => by
    have ih := be_bound l j (by omega)
    have hb : l[j]? = some l[j] := by simp
    rw [be_next hb, Int.pow_succ]
    have := (l[j]).toNat_lt
    omega
/-- A number ahead, and what stands behind it. -/
def rdN (l : Bs) : Option (Int × Bs) := match l with
  | [] => none
  | b :: r => if 4 < b.toNat then none else if r.length < b.toNat then none
    else if (0 < b.toNat ∧ r.getD 0 0 = 0) ∨ 1073741823 < be (r.take b.toNat) then none else some (be (r.take b.toNat), r.drop b.toNat)
theorem rdN_cons (b : UInt8) (r : Bs) : rdN (b :: r) = if 4 < b.toNat then none else if r.length < b.toNat then none
    else if (0 < b.toNat ∧ r.getD 0 0 = 0) ∨ 1073741823 < be (r.take b.toNat) then none else some (be (r.take b.toNat), r.drop b.toNat) := rfl
theorem numL_len (x : Int) : (numL x).length ≤ 5 ∧ 1 ≤ (numL x).length := by unfold numL; (repeat' split) <;> simp
theorem rd_num {x : Int} (h : okN x = true) (q : Bs) : rdN (numL x ++ q) = some (x, q) := by
  rw [okN_iff] at h
  unfold numL
  split
  · have hx : x = 0 := by omega
    subst hx; rfl
  all_goals try split
  all_goals try split
  all_goals try split
  · have hb : be [byt x 0] = x := by simp [be, byt_toNat]; omega
    have hz : byt x 0 ≠ 0 := fun e => by have := congrArg UInt8.toNat e; rw [byt_toNat] at this; simp at this; omega
    have h1 : (1 : UInt8).toNat = 1 := rfl
    rw [List.cons_append, rdN_cons]
    simp only [h1, List.cons_append, List.nil_append, List.length_cons, List.getD_cons_zero, List.take_succ_cons, List.take_zero, List.drop_succ_cons, List.drop_zero, hb]
    rw [if_neg (by decide), if_neg (by omega), if_neg (by simp [hz]; omega)]
  · have hb : be [byt x 1, byt x 0] = x := by simp [be, byt_toNat]; omega
    have hz : byt x 1 ≠ 0 := fun e => by have := congrArg UInt8.toNat e; rw [byt_toNat] at this; simp at this; omega
    have h1 : (2 : UInt8).toNat = 2 := rfl
    rw [List.cons_append, rdN_cons]
    simp only [h1, List.cons_append, List.nil_append, List.length_cons, List.getD_cons_zero, List.take_succ_cons, List.take_zero, List.drop_succ_cons, List.drop_zero, hb]
    rw [if_neg (by decide), if_neg (by omega), if_neg (by simp [hz]; omega)]
  · have hb : be [byt x 2, byt x 1, byt x 0] = x := by simp [be, byt_toNat]; omega
    have hz : byt x 2 ≠ 0 := fun e => by have := congrArg UInt8.toNat e; rw [byt_toNat] at this; simp at this; omega
    have h1 : (3 : UInt8).toNat = 3 := rfl
    rw [List.cons_append, rdN_cons]
    simp only [h1, List.cons_append, List.nil_append, List.length_cons, List.getD_cons_zero, List.take_succ_cons, List.take_zero, List.drop_succ_cons, List.drop_zero, hb]
    rw [if_neg (by decide), if_neg (by omega), if_neg (by simp [hz]; omega)]
  · have hb : be [byt x 3, byt x 2, byt x 1, byt x 0] = x := by simp [be, byt_toNat]; omega
    have hz : byt x 3 ≠ 0 := fun e => by have := congrArg UInt8.toNat e; rw [byt_toNat] at this; simp at this; omega
    have h1 : (4 : UInt8).toNat = 4 := rfl
    rw [List.cons_append, rdN_cons]
    simp only [h1, List.cons_append, List.nil_append, List.length_cons, List.getD_cons_zero, List.take_succ_cons, List.take_zero, List.drop_succ_cons, List.drop_zero, hb]
    rw [if_neg (by decide), if_neg (by omega), if_neg (by simp [hz]; omega)]
theorem u8_pos {b : UInt8} (h : ¬ b = 0) : 0 < b.toNat := by
  rcases Nat.eq_zero_or_pos b.toNat with h0 | h0
  · exact (h (UInt8.toNat_inj.1 h0)).elim
  · exact h0
theorem rd_inv {l : Bs} {x : Int} {q : Bs} (h : rdN l = some (x, q)) : okN x = true ∧ l = numL x ++ q := by
  unfold rdN at h
  split at h
  · cases h
  rename_i b r
  split at h
  · cases h
  split at h
  · cases h
  split at h
  · cases h
  rename_i h4 hl hc
  simp only [Option.some.injEq, Prod.mk.injEq] at h
  obtain ⟨hx, hq⟩ := h
  have hk : b.toNat = 0 ∨ b.toNat = 1 ∨ b.toNat = 2 ∨ b.toNat = 3 ∨ b.toNat = 4 := by omega
  have hb : ∀ k : Nat, k ≤ 4 → b.toNat = k → b = UInt8.ofNat k := fun k hk4 hk => UInt8.toNat_inj.1 (by rw [hk, UInt8.toNat_ofNat']; omega)
  rw [okN_iff]
  rcases hk with hk | hk | hk | hk | hk <;> rw [hk] at hx hq hc hl <;> have hbv := hb _ (by omega) hk
  · have : x = 0 := by rw [← hx]; rfl
    subst this
    refine ⟨by omega, ?_⟩
    rw [hbv, ← hq]; rfl
  · rcases r with _ | ⟨a, r⟩
    · exact (hl (by simp)).elim
    ·
      have ha := a.toNat_lt
      have hxv : x = a.toNat := by rw [← hx]; simp [be]
      have ha0 := u8_pos (b := a) (fun e => hc (.inl ⟨by omega, by simpa using e⟩))
      have hle : ¬ 1073741823 < x := fun e => hc (.inr (by rw [hx]; exact e))
      have hn : numL x = [1, a] := by
        unfold numL; rw [if_neg (by omega), if_pos (by omega), byt_eq (b := a) (by simp; omega)]
      refine ⟨by omega, ?_⟩
      rw [hn, hbv, ← hq]; rfl
  · rcases r with _ | ⟨a, _ | ⟨c, r⟩⟩
    · exact (hl (by simp)).elim
    · exact (hl (by simp)).elim
    ·
      have ha := a.toNat_lt
      have hcl := c.toNat_lt
      have hxv : x = a.toNat * 256 + c.toNat := by rw [← hx]; simp [be]
      have ha0 := u8_pos (b := a) (fun e => hc (.inl ⟨by omega, by simpa using e⟩))
      have hle : ¬ 1073741823 < x := fun e => hc (.inr (by rw [hx]; exact e))
      have hn : numL x = [2, a, c] := by
        unfold numL; rw [if_neg (by omega), if_neg (by omega), if_pos (by omega), byt_eq (b := a) (by simp; omega), byt_eq (b := c) (by simp; omega)]
      refine ⟨by omega, ?_⟩
      rw [hn, hbv, ← hq]; rfl
  · rcases r with _ | ⟨a, _ | ⟨c, _ | ⟨d, r⟩⟩⟩
    · exact (hl (by simp)).elim
    · exact (hl (by simp)).elim
    · exact (hl (by simp)).elim
    ·
      have ha := a.toNat_lt
      have hcl := c.toNat_lt
      have hdl := d.toNat_lt
      have hxv : x = (a.toNat * 256 + c.toNat) * 256 + d.toNat := by rw [← hx]; simp [be]
      have ha0 := u8_pos (b := a) (fun e => hc (.inl ⟨by omega, by simpa using e⟩))
      have hle : ¬ 1073741823 < x := fun e => hc (.inr (by rw [hx]; exact e))
      have hn : numL x = [3, a, c, d] := by
        unfold numL; rw [if_neg (by omega), if_neg (by omega), if_neg (by omega), if_pos (by omega), byt_eq (b := a) (by simp; omega), byt_eq (b := c) (by simp; omega), byt_eq (b := d) (by simp; omega)]
      refine ⟨by omega, ?_⟩
      rw [hn, hbv, ← hq]; rfl
  · rcases r with _ | ⟨a, _ | ⟨c, _ | ⟨d, _ | ⟨e, r⟩⟩⟩⟩
    · exact (hl (by simp)).elim
    · exact (hl (by simp)).elim
    · exact (hl (by simp)).elim
    · exact (hl (by simp)).elim
    ·
      have ha := a.toNat_lt
      have hcl := c.toNat_lt
      have hdl := d.toNat_lt
      have hel := e.toNat_lt
      have hxv : x = ((a.toNat * 256 + c.toNat) * 256 + d.toNat) * 256 + e.toNat := by rw [← hx]; simp [be]
      have ha0 := u8_pos (b := a) (fun e => hc (.inl ⟨by omega, by simpa using e⟩))
      have hle : ¬ 1073741823 < x := fun e => hc (.inr (by rw [hx]; exact e))
      have hn : numL x = [4, a, c, d, e] := by
        unfold numL; rw [if_neg (by omega), if_neg (by omega), if_neg (by omega), if_neg (by omega), byt_eq (b := a) (by simp; omega), byt_eq (b := c) (by simp; omega), byt_eq (b := d) (by simp; omega), byt_eq (b := e) (by simp; omega)]
      refine ⟨by omega, ?_⟩
      rw [hn, hbv, ← hq]; rfl
theorem rd_ext {l q : Bs} {x : Int} (h : rdN l = some (x, q)) (r : Bs) : rdN (l ++ r) = some (x, q ++ r) := by
  obtain ⟨h1, h2⟩ := rd_inv h
  rw [h2, List.append_assoc]; exact rd_num h1 _
/-- A text. -/
def txtL (t : Bs) : Bs := numL t.length ++ t
def rdT (l : Bs) : Option (Bs × Bs) := match rdN l with
  | none => none
  | some (k, r) => if 65536 < k then none else if (r.length : Int) < k then none else some (r.take k.toNat, r.drop k.toNat)
theorem rdT_txt {t : Bs} (h : t.length ≤ 65536) (q : Bs) : rdT (txtL t ++ q) = some (t, q) := by
  unfold rdT txtL
  rw [List.append_assoc, rd_num (by rw [okN_iff]; omega)]
  simp only
  rw [if_neg (by omega), if_neg (by simp; omega)]
  simp
theorem rdT_inv {l t q : Bs} (h : rdT l = some (t, q)) : t.length ≤ 65536 ∧ l = txtL t ++ q := by
  unfold rdT at h
  split at h
  · cases h
  rename_i k r hk
  split at h
  · cases h
  split at h
  · cases h
  rename_i h1 h2
  simp only [Option.some.injEq, Prod.mk.injEq] at h
  obtain ⟨h3, h4⟩ := h
  obtain ⟨h5, h6⟩ := rd_inv hk
  rw [okN_iff] at h5
  have hlen : t.length = k.toNat := by rw [← h3, List.length_take]; omega
  refine ⟨by omega, ?_⟩
  unfold txtL
  rw [h6, hlen, show ((k.toNat : Nat) : Int) = k by omega, List.append_assoc, ← h3, ← h4, List.take_append_drop]
theorem rdT_ext {l q t : Bs} (h : rdT l = some (t, q)) (r : Bs) : rdT (l ++ r) = some (t, q ++ r) := by
  obtain ⟨h1, h2⟩ := rdT_inv h
  rw [h2, List.append_assoc]; exact rdT_txt h1 _
/-- Numbers in a row. -/
def rdNs : Nat → Bs → Option (List Int × Bs)
  | 0, l => some ([], l)
  | n + 1, l => match rdN l with
    | none => none
    | some (x, q) => match rdNs n q with
      | none => none
      | some (xs, r) => some (x :: xs, r)
def numsL (xs : List Int) : Bs := xs.flatMap numL
theorem rdNs_nums : ∀ {xs : List Int}, (∀ x ∈ xs, okN x = true) → ∀ (q : Bs), rdNs xs.length (numsL xs ++ q) = some (xs, q)
  | [], _, q => rfl
  | x :: xs, h, q => by
    have e : numsL (x :: xs) ++ q = numL x ++ (numsL xs ++ q) := by unfold numsL; rw [List.flatMap_cons, List.append_assoc]
    rw [e, List.length_cons, rdNs, rd_num (h x List.mem_cons_self)]
    simp only
    rw [rdNs_nums (fun y hy => h y (List.mem_cons_of_mem _ hy))]
theorem rdNs_inv : ∀ {n : Nat} {l : Bs} {xs : List Int} {q : Bs}, rdNs n l = some (xs, q) → xs.length = n ∧ (∀ x ∈ xs, okN x = true) ∧ l = numsL xs ++ q
  | 0, l, xs, q, h => by cases h; exact ⟨rfl, (fun x hx => by cases hx), rfl⟩
  | n + 1, l, xs, q, h => by
    unfold rdNs at h
    split at h
    · cases h
    rename_i x r hx
    split at h
    · cases h
    rename_i ys r' hy
    cases h
    obtain ⟨h1, h2⟩ := rd_inv hx
    obtain ⟨h3, h4, h5⟩ := rdNs_inv hy
    refine ⟨by rw [List.length_cons, h3], fun z hz => ?_, ?_⟩
    · rcases List.mem_cons.1 hz with rfl | hz
      · exact h1
      · exact h4 z hz
    · rw [h2, h5]; unfold numsL; rw [List.flatMap_cons, List.append_assoc]
theorem rdNs_ext {n : Nat} {l q : Bs} {xs : List Int} (h : rdNs n l = some (xs, q)) (r : Bs) : rdNs n (l ++ r) = some (xs, q ++ r) := by
  obtain ⟨h1, h2, h3⟩ := rdNs_inv h
  rw [h3, List.append_assoc, ← h1]; exact rdNs_nums h2 _
/-- What is written kind by kind: numbers, and of some a text. -/
structure Codec (α : Type) where
  kind : α → Int
  nums : α → List Int
  text : α → Bs
  make : Int → List Int → Bs → α
  cnt : Int → Nat
  hasT : Int → Bool
  may : α → Bool
  okK : ∀ a, may a = true → okN (kind a) = true
  okX : ∀ a, may a = true → ∀ x ∈ nums a, okN x = true
  okC : ∀ a, (nums a).length = cnt (kind a)
  okT : ∀ a, may a = true → (text a).length ≤ 65536
  noT : ∀ a, may a = true → hasT (kind a) = false → text a = []
  back : ∀ a, may a = true → make (kind a) (nums a) (text a) = a
  mkK : ∀ k xs t, xs.length = cnt k → (hasT k = true ∨ t = []) → kind (make k xs t) = k ∧ nums (make k xs t) = xs ∧ text (make k xs t) = t
section
variable {α : Type} (C : Codec α)
def Codec.put (a : α) : Bs := numL (C.kind a) ++ numsL (C.nums a) ++ (if C.hasT (C.kind a) = true then txtL (C.text a) else [])
def Codec.parse (l : Bs) : Option (α × Bs) := match rdN l with
  | none => none
  | some (k, l1) => match rdNs (C.cnt k) l1 with
    | none => none
    | some (xs, l2) => if C.hasT k = true then (match rdT l2 with
      | none => none
      | some (t, l3) => some (C.make k xs t, l3)) else some (C.make k xs [], l2)
def Codec.get (l : Bs) : Option α := match C.parse l with
  | some (a, []) => if C.may a = true then some a else none
  | _ => none
theorem Codec.parse_put {a : α} (h : C.may a = true) (q : Bs) : C.parse (C.put a ++ q) = some (a, q) := by
  unfold Codec.parse Codec.put
  rw [List.append_assoc, List.append_assoc, rd_num (C.okK a h)]
  simp only
  rw [← C.okC a, rdNs_nums (C.okX a h)]
  simp only
  cases ht : C.hasT (C.kind a) with
  | true => simp only [if_true]; rw [rdT_txt (C.okT a h)]; simp only; rw [C.back a h]
  | false =>
    simp only [Bool.false_eq_true, if_false, List.nil_append]
    have := C.back a h
    rw [C.noT a h ht] at this; rw [this]
theorem Codec.parse_inv {l q : Bs} {a : α} (h : C.parse l = some (a, q)) : l = C.put a ++ q := by
  unfold Codec.parse at h
  split at h
  · cases h
  rename_i k l1 h1
  split at h
  · cases h
  rename_i xs l2 h2
  obtain ⟨a1, a2⟩ := rd_inv h1
  obtain ⟨b1, b2, b3⟩ := rdNs_inv h2
  split at h
  · rename_i ht
    split at h
    · cases h
    rename_i t l3 h3
    cases h
    obtain ⟨c1, c2⟩ := rdT_inv h3
    obtain ⟨m1, m2, m3⟩ := C.mkK k xs t b1 (.inl ht)
    unfold Codec.put
    rw [m1, m2, m3, if_pos ht, a2, b3, c2]; simp only [List.append_assoc]
  · rename_i ht
    cases h
    obtain ⟨m1, m2, m3⟩ := C.mkK k xs [] b1 (.inr rfl)
    unfold Codec.put
    rw [m1, m2, m3, if_neg ht, a2, b3]; simp only [List.append_assoc, List.append_nil, List.nil_append]
theorem Codec.parse_ext {l q : Bs} {a : α} (h : C.parse l = some (a, q)) (r : Bs) : C.parse (l ++ r) = some (a, q ++ r) := by
  unfold Codec.parse at h ⊢
  split at h
  · cases h
  rename_i k l1 h1
  split at h
  · cases h
  rename_i xs l2 h2
  rw [rd_ext h1]; simp only; rw [rdNs_ext h2]; simp only
  split at h
  · rename_i ht
    split at h
    · cases h
    rename_i t l3 h3
    cases h
    rw [if_pos ht, rdT_ext h3]
  · rename_i ht
    cases h
    rw [if_neg ht]
theorem Codec.get_put {a : α} (h : C.may a = true) : C.get (C.put a) = some a := by
  unfold Codec.get
  have := C.parse_put h []
  rw [List.append_nil] at this
  rw [this]; simp only; rw [if_pos h]
theorem Codec.get_inv {l : Bs} {a : α} (h : C.get l = some a) : C.may a = true ∧ C.put a = l := by
  unfold Codec.get at h
  split at h
  · rename_i b hb
    split at h
    · rename_i hm; cases h
      have := C.parse_inv hb
      rw [List.append_nil] at this
      exact ⟨hm, this.symm⟩
    · cases h
  · cases h
theorem Codec.get_more {a : α} (h : C.may a = true) {b : UInt8} {r : Bs} : C.get (C.put a ++ b :: r) = none := by
  unfold Codec.get; rw [C.parse_put h]
theorem Codec.get_cut {a : α} (h : C.may a = true) {k : Nat} (hk : k < (C.put a).length) : C.get ((C.put a).take k) = none := by
  cases hg : C.get ((C.put a).take k) with
  | none => rfl
  | some b =>
    exfalso
    obtain ⟨h1, h2⟩ := C.get_inv hg
    have h3 := C.parse_put h1 ((C.put a).drop k)
    rw [h2, List.take_append_drop] at h3
    have h4 := C.parse_put h []
    rw [List.append_nil, h3] at h4
    simp only [Option.some.injEq, Prod.mk.injEq] at h4
    have := congrArg List.length h4.2
    simp at this; omega
theorem Codec.put_inj {a b : α} (ha : C.may a = true) (hb : C.may b = true) (h : C.put a = C.put b) : a = b := by
  have h1 := C.get_put ha
  rw [h, C.get_put hb] at h1; cases h1; rfl
theorem Codec.put_ne (a : α) : 1 ≤ (C.put a).length := by
  unfold Codec.put
  have := (numL_len (C.kind a)).2
  simp only [List.length_append]; omega
end
end Go.Proofs.Ytcjfidfealifhaa
