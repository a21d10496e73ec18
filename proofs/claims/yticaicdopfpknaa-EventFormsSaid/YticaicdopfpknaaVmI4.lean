/- make, copy, clear, bytes of a text. No program in it. -/
import Derived.Test.YticaicdopfpknaaVmI3
import Derived.Laws.MakeOwn
import Derived.Laws.IdiomStrings
set_option linter.unusedVariables false
set_option linter.unusedSimpArgs false
namespace Go.Proofs.Yticaicdopfpknaa.Vm
open Go

def evMakeSlice (τ : Nat → Option TI) (n t : Nat) (l c : Value) : Option Res :=
  match τ t with
  | none => none
  | some ti => match ti.desc, l, c with
    | .slice e, .int _ l, .int _ c => match τ e with
      | some te => if 0 ≤ l ∧ l = c ∧ 0 < te.size ∧ (te.bytes : Int) * c ≤ 140737488355328 ∧ c ≤ 140737488355328 then
          some ⟨.slice (some ⟨n, 0, none⟩) l.toNat 0, [(n, some (.opn (zeros te.zero.cells.toList l.toNat) e te.size))], 1, []⟩ else none
      | none => none
    | _, _, _ => none

def u8s (s : ByteArray) : List Value := s.data.toList.map fun b => .int .u8 b.toNat

/-- The first elements of a slice, or bytes of a text. -/
def evFirst (V : Heap) (sz n : Nat) : Value → Option (List Value × List Nat)
  | .slice none 0 0 => if n = 0 then some ([], []) else none
  | .slice (some ⟨j, off, none⟩) m _ => match (V j).bind cellsOf with
    | some c => if off + n * sz ≤ c.length ∧ n ≤ m then some ((c.drop off).take (n * sz), [j]) else none
    | none => none
  | .string s => if sz = 1 ∧ n ≤ s.size then some ((u8s s).take n, []) else none
  | _ => none

def lenV : Value → Option Nat
  | .slice _ m _ => some m
  | .string s => some s.size
  | _ => none

def evCopy (τ : Nat → Option TI) (V : Heap) (t : Nat) (dst src : Value) : Option Res :=
  match τ t with
  | none => none
  | some ti => match ti.desc with
    | .slice e => match τ e with
      | none => none
      | some te => match dst, lenV src with
        | .slice (some ⟨i, off, none⟩) dl _, some sl => match evFirst V te.size (min sl dl) src, V i with
          | some (cs, rs), some (.opn c e' sz) =>
            if off + cs.length ≤ c.length ∧ cs.all Value.oneCell' = true then some ⟨.int .i64 (min sl dl : Nat), [(i, some (.opn (splice c off cs) e' sz))], 0, i :: rs⟩ else none
          | _, _ => none
        | _, _ => none
    | _ => none

def evClear (τ : Nat → Option TI) (V : Heap) (t : Nat) (x : Value) : Option Res :=
  match τ t with
  | none => none
  | some ti => match ti.desc with
    | .slice e => match τ e, x with
      | some te, .slice (some ⟨i, off, none⟩) m _ => match V i with
        | some (.opn c e' sz) => if off + m * te.size ≤ c.length ∧ te.zero.cells.toList.all Value.oneCell' = true then some ⟨undef, [(i, some (.opn (splice c off (zeros te.zero.cells.toList m)) e' sz))], 0, [i]⟩ else none
        | _ => none
      | _, _ => none
    | _ => none

def evBytes (τ : Nat → Option TI) (n src dst : Nat) (x : Value) : Option Res :=
  match τ src, τ dst with
  | some ts, some td => match ts.desc, td.desc, x with
    | .string, .slice e, .string s => match τ e with
      | some te => match te.desc with
        | .int .u8 => if te.size = 1 then some ⟨.slice (some ⟨n, 0, none⟩) s.size 0, [(n, some (.opn (u8s s) e 1))], 1, []⟩ else none
        | _ => none
      | none => none
    | _, _, _ => none
  | _, _ => none

section
variable {P : Program} {τ : Nat → Option TI} {ρ : Ren} {V : Heap} {w : World} {n : Nat}

theorem madeCells_zeros {z : Array Value} {k : Nat} : (Go.madeCells z (k * z.size)) = (zeros z.toList k).toArray := by
  rw [← zeros_range]; rfl

theorem evMakeSlice_ok (hτ : TyOk P τ) (hzs : ∀ t ti, τ t = some ti → ti.zero.cells.size = ti.size) (hs : Sim ρ V w) {t : Nat} {l c l' c' : Value} {r : Res} (hl : VRel ρ l l') (hc : VRel ρ c c') (hn : ∀ i, n ≤ i → i < n + r.k → ρ i = none)
    (h : evMakeSlice τ n t l c = some r) : ValOk P (Instr.makeSlice t l' c') ρ V w n r := by
  unfold evMakeSlice at h
  split at h
  case h_1 => cases h
  rename_i ti ht
  split at h
  case h_2 => cases h
  rename_i e k1 l k2 c hd
  split at h
  case h_2 => cases h
  rename_i te he
  split at h
  case isFalse => cases h
  rename_i hcond
  obtain ⟨h0, rfl, hsz, hb, h63⟩ := hcond
  cases h
  cases hl; cases hc
  have hu : P.underlying t = some (.slice e) := by rw [hτ.under t ti ht, hd]
  obtain ⟨f, hf, hfs, hfb, hfz⟩ := hτ.info e te he
  have hz0 := hzs e te he
  have hrun := run_make (P := P) w t e f te.zero hu hf hfz k1 k2 l l h0 (Int.le_refl _) (by rw [hfb]; omega) (by omega)
  rw [hfs, ← hz0, madeCells_zeros] at hrun
  refine ValOk.new (o' := .cells (zeros te.zero.cells.toList l.toNat).toArray e (0, 0)) (cap := some (l.toNat, te.size)) (w' := w.alloc (.cells (zeros te.zero.cells.toList l.toNat).toArray e)) hs (hn n (Nat.le_refl _) (by simp)) (gone_pos rfl hsz) ⟨rfl, rfl, rfl, rfl⟩ hrun ?_ ?_
  · refine .opn (c1 := zeros te.zero.cells.toList l.toNat) (c2 := []) (k := l.toNat) e rfl rfl (lrel_zeros (vrel_cells (hτ.zero e te he _)) _) (by simp) ?_ hsz (0, 0) (.inr rfl)
    rw [List.size_toArray, zeros_length, Array.length_toList, hz0]
  · have := VRel.oslice (ρ := extR ρ n ⟨w.heap.size, some (l.toNat, te.size), 0⟩) (i := n) (off := 0) (n := l.toNat) (e := 0) (k := l.toNat) (sz := te.size) (s := ⟨w.heap.size, some (l.toNat, te.size), 0⟩) (extR_self _ _ _) rfl hsz (by simp) (by omega)
    simpa using this

theorem lrel_u8s (s : ByteArray) : LRel ρ (u8s s) (u8s s) := by
  refine ⟨rfl, fun i v v' h1 h2 => ?_⟩
  rw [h1] at h2; cases h2
  unfold u8s at h1
  rw [List.getElem?_map] at h1
  obtain ⟨x, _, rfl⟩ := Option.map_eq_some_iff.1 h1
  exact .int _ _

theorem first_of (hs : Sim ρ V w) {sz k : Nat} {x x' : Value} {cs : List Value} {rs : List Nat} (hx : VRel ρ x x') (h : evFirst V sz k x = some (cs, rs)) : ∃ cs', LRel ρ cs cs' ∧ (Builtin.firstCells sz k x').run P w = .ok cs'.toArray w := by
  unfold evFirst at h
  split at h
  · split at h
    case isFalse => cases h
    cases h; cases hx; exact ⟨[], lrel_nil, rfl⟩
  · rename_i j off m cp
    split at h
    case h_2 => cases h
    rename_i c hc
    split at h
    case isFalse => cases h
    rename_i hle
    cases h
    cases hg : V j with
    | none => simp [hg] at hc
    | some o =>
    simp only [hg, Option.bind_some] at hc
    obtain ⟨s', c', h1, h3, h2⟩ := block_of hs hg hc
    have hlc := h3.1
    have hcell : ∀ (i : Nat) v, ((c'.drop off).take (k * sz))[i]? = some v → w.cell? ((⟨s'.blk, s'.base + off, none⟩ : Addr).add i) = some v := by
      intro i v hv
      rw [add_none]
      rw [List.getElem?_take] at hv
      split at hv
      · rw [List.getElem?_drop] at hv; rw [Nat.add_assoc]; exact h2 _ _ hv
      · cases hv
    have hlen : ((c'.drop off).take (k * sz)).length = k * sz := by simp only [List.length_take, List.length_drop]; omega
    have fin : ∀ (cc : Nat), (Builtin.firstCells sz k (.slice (some ⟨s'.blk, s'.base + off, none⟩) m cc)).run P w = .ok ((c'.drop off).take (k * sz)).toArray w := by
      intro cc
      have := run_loadCells_list (P := P) w ⟨s'.blk, s'.base + off, none⟩ ((c'.drop off).take (k * sz)) hcell
      rw [hlen] at this
      exact this
    cases hx with
    | slice hi hcp => rw [hi] at h1; cases h1; exact ⟨_, lrel_take (lrel_drop h3 off) _, fin _⟩
    | oslice hi hcp hz he hn => rw [hi] at h1; cases h1; exact ⟨_, lrel_take (lrel_drop h3 off) _, fin _⟩
    | ghost hi hcp =>
      obtain rfl : k = 0 := by omega
      exact ⟨[], by simpa using lrel_nil, rfl⟩
    | hollow hi hcp =>
      obtain rfl : k = 0 := by omega
      exact ⟨[], by simpa using lrel_nil, by simp [Builtin.firstCells, loadCells, loadCellsFrom]⟩
  · rename_i s
    split at h
    case isFalse => cases h
    rename_i hc
    obtain ⟨rfl, hk⟩ := hc
    cases h; cases hx
    refine ⟨_, lrel_take (lrel_u8s s) k, ?_⟩
    simp only [Builtin.firstCells, Sem.run_pure, Result.ok.injEq, and_true]
    apply Array.ext'
    simp [u8s, ByteArray.data_extract, List.map_take]
  · cases h

theorem lenV_ok {x x' : Value} {k : Nat} (hx : VRel ρ x x') (h : lenV x = some k) : (Builtin.lenOf x').run P w = .ok k w := by
  unfold lenV at h
  split at h
  · cases h; cases hx <;> rfl
  · cases h; cases hx; rfl
  · cases h

theorem run_copy {t ty u e : TypeId} {i : TypeInfo} (ht : P.underlying t = some (.slice e)) (hi : P.info? e = some i) {a : Addr} {dl cap sl : Nat} {x' : Value} {cs : List Value} (hl : (Builtin.lenOf x').run P w = .ok sl w)
    (hf : (Builtin.firstCells i.size (min sl dl) x').run P w = .ok cs.toArray w) {w' : World} (hrun : (storeCells a cs).run P w = .ok () w') :
    (Builtin.copy_ #[t, u] ty #[.slice (some a) dl cap, x']).run P w = .ok (.int .i64 (min sl dl : Nat)) w' := by
  have hf' : (Builtin.firstCells i.size (Nat.min sl dl) x').run P w = .ok cs.toArray w := hf
  have e : Nat.min sl dl = min sl dl := rfl
  simp [Builtin.copy_, run_underlying ht, sizeOf, typeInfo, hi, hl, hf', hrun, goInt, e]

/-- Cells of an open block are turned. -/
theorem put_open (hs : Sim ρ V w) {i off : Nat} {c cs cs' : List Value} {e : TypeId} {sz : Nat} {s : Slot} (hV : V i = some (.opn c e sz)) (hi : ρ i = some s) (hgo : s.gone = false) (hl : LRel ρ cs cs') (hfit : off + cs.length ≤ c.length) (hone : cs.all Value.oneCell' = true) :
    ∃ w', (storeCells ⟨s.blk, s.base + off, none⟩ cs').run P w = .ok () w' ∧ Sim ρ (over V [(i, some (.opn (splice c off cs) e sz))]) w' ∧ Keep ρ V w ρ (over V [(i, some (.opn (splice c off cs) e sz))]) w' := by
  obtain ⟨o', g2, g3⟩ := hs.at_ hV hi hgo
  cases g3 with
  | @opn _ c1 c2 c' k _ _ hcap3 hb0 hl2 hcc hk hz' fr hfr =>
  have hlc := hl2.1
  have hll := hl.1
  have hcl : c'.size = c1.length + c2.length := by have := congrArg List.length hcc; simpa using this
  obtain ⟨w', hrun, hwr, hw'⟩ := run_storeCells (P := P) (off := off) (fr := fr) cs' 0 w c' g2 (by omega) (lrel_one hl hone) (by
    intro j h1 h2 ⟨h3, h4⟩
    rcases hfr with h | h <;> omega)
  rw [Nat.add_zero] at hw'
  have hor : ORel ρ s (.opn (splice c off cs) e sz) (.cells (splice c'.toList off cs').toArray e fr) := by
    refine .opn (c1 := splice c1 off cs') (c2 := c2) (k := k) e hcap3 hb0 (lrel_splice hl2 hl _) ?_ ?_ hz' fr ?_
    · show splice c'.toList off cs' = _
      rw [hcc]
      unfold splice
      rw [List.take_append_of_le_length (by omega), List.drop_append_of_le_length (by omega)]
      simp
    · rw [List.size_toArray, splice_length _ _ _ (by simp only [Array.length_toList]; omega)]; simpa using hk
    · rw [List.size_toArray, splice_length _ _ _ (by simp only [Array.length_toList]; omega)]; simpa using hfr
  obtain ⟨q1, q2⟩ := sim_put hs hV rfl rfl hi hgo hwr hw' hor
  rw [hb0, Nat.zero_add, over_cons, over_nil]
  exact ⟨w', hrun, q1, q2⟩

theorem over_void {i off : Nat} {c cs : List Value} {e : TypeId} {sz : Nat} (hV : V i = some (.opn c e sz)) (hc : c = []) (ho : off = 0) (hcs : cs = []) : over V [(i, some (.opn (splice c off cs) e sz))] = V := by
  subst hc; subst ho; subst hcs
  rw [over_cons, over_nil]
  funext j
  simp only [upd]
  split
  · rename_i hj; subst hj; rw [hV]; simp [splice]
  · rfl

/-- A slice of an open block: it lies there, or is nothing. -/
theorem open_or (hs : Sim ρ V w) {i off m cap : Nat} {c : List Value} {e : TypeId} {sz : Nat} {x' : Value} (hV : V i = some (.opn c e sz)) (hx : VRel ρ (.slice (some ⟨i, off, none⟩) m cap) x') :
    (∃ s cc, ρ i = some s ∧ s.gone = false ∧ x' = .slice (some ⟨s.blk, s.base + off, none⟩) m cc) ∨ (c = [] ∧ off = 0 ∧ m = 0 ∧ (x' = .slice none 0 0 ∨ ∃ a, x' = .slice (some a) 0 0)) := by
  obtain ⟨s, h1, hat⟩ := hs.has i _ hV
  have hv : s.gone = true → c = [] ∧ s.thin = true := by
    intro hg
    rcases hat with ⟨_, hv, h | h⟩ | ⟨hg', _⟩
    · cases h
    · cases c with
      | nil => exact ⟨rfl, h⟩
      | cons => cases hv
    · rw [hg] at hg'; cases hg'
  cases hx with
  | slice hi hc => rw [h1] at hi; cases hi; exact .inl ⟨s, _, h1, gone_none hc, rfl⟩
  | oslice hi hc hz he hn => rw [h1] at hi; cases hi; exact .inl ⟨s, _, h1, gone_pos hc hz, rfl⟩
  | ghost hi hc => rw [h1] at hi; cases hi; exact .inr ⟨(hv (gone_zero hc)).1, rfl, rfl, .inl rfl⟩
  | hollow hi hc =>
    rw [h1] at hi; cases hi
    obtain rfl := thin_cap hc (hv (gone_zero hc)).2
    exact .inr ⟨(hv (gone_zero hc)).1, rfl, rfl, .inr ⟨_, rfl⟩⟩

theorem evCopy_ok (hτ : TyOk P τ) (hs : Sim ρ V w) {t ty u : Nat} {s s' x x' : Value} {r : Res} (hx1 : VRel ρ s s') (hx : VRel ρ x x') (h : evCopy τ V t s x = some r) : ValOk P (Builtin.copy_ #[t, u] ty #[s', x']) ρ V w n r := by
  unfold evCopy at h
  split at h
  case h_1 => cases h
  rename_i ti ht
  split at h
  case h_2 => cases h
  rename_i e hd
  split at h
  case h_1 => cases h
  rename_i te he
  split at h
  case h_2 => cases h
  rename_i i off dl cp sl hsl
  split at h
  case h_2 => cases h
  rename_i cs rs c e' sz hfst hV
  split at h
  case isFalse => cases h
  rename_i hcond
  cases h
  have hu : P.underlying t = some (.slice e) := by rw [hτ.under t ti ht, hd]
  obtain ⟨f, hf, hfs, hfb, hfz⟩ := hτ.info e te he
  obtain ⟨cs', hl, hrun⟩ := first_of (P := P) hs hx hfst
  rw [← hfs] at hrun
  rcases open_or hs hV hx1 with ⟨sl', cc, hi, hgo, rfl⟩ | ⟨rfl, rfl, rfl, hx2⟩
  · obtain ⟨w', h1, h2, h3⟩ := put_open (P := P) hs hV hi hgo hl hcond.1 hcond.2
    exact ⟨_, w', ρ, run_copy hu hf (lenV_ok hx hsl) hrun h1, .int _ _, h2, h3, fun _ _ => rfl⟩
  · have hcs : cs = [] := List.length_eq_zero_iff.1 (by have := hcond.1; simp only [List.length_nil, Nat.zero_add] at this; omega)
    have hcs' : cs' = [] := List.length_eq_zero_iff.1 (by rw [← hl.1, hcs]; rfl)
    subst hcs'
    have hov := over_void hV rfl rfl hcs
    rw [Nat.min_zero] at hrun ⊢
    refine ⟨.int .i64 (0 : Nat), w, ρ, ?_, .int _ _, by rw [hov]; exact hs, by rw [hov]; exact .refl _ _ _, fun _ _ => rfl⟩
    have hlx := lenV_ok (P := P) (w := w) hx hsl
    have hmin : Nat.min sl 0 = 0 := Nat.min_zero sl
    rcases hx2 with rfl | ⟨a, rfl⟩
    · simp [Builtin.copy_, run_underlying hu, sizeOf, typeInfo, hf, hlx, hmin, hrun, goInt]
    · simp [Builtin.copy_, run_underlying hu, sizeOf, typeInfo, hf, hlx, hmin, hrun, goInt, storeCells]

theorem evClear_ok (hτ : TyOk P τ) (hzs : ∀ t ti, τ t = some ti → ti.zero.cells.size = ti.size) (hs : Sim ρ V w) {t ty : Nat} {x x' : Value} {r : Res} (hx : VRel ρ x x') (h : evClear τ V t x = some r) : ValOk P (Builtin.clear_ #[t] ty #[x']) ρ V w n r := by
  unfold evClear at h
  split at h
  case h_1 => cases h
  rename_i ti ht
  split at h
  case h_2 => cases h
  rename_i e hd
  split at h
  case h_2 => cases h
  rename_i te i off m cp he
  split at h
  case h_2 => cases h
  rename_i c e' sz hV
  split at h
  case isFalse => cases h
  rename_i hcond
  cases h
  have hu : P.underlying t = some (.slice e) := by rw [hτ.under t ti ht, hd]
  obtain ⟨f, hf, hfs, hfb, hfz⟩ := hτ.info e te he
  have hz0 := hzs e te he
  have hzl : (zeros te.zero.cells.toList m).length = m * te.size := by rw [zeros_length, Array.length_toList, hz0]
  have hone : (zeros te.zero.cells.toList m).all Value.oneCell' = true := by
    have : ∀ k, (zeros te.zero.cells.toList k).all Value.oneCell' = true := by
      intro k
      induction k with
      | zero => rfl
      | succ k ih => simp only [zeros, List.all_append, hcond.2, ih, Bool.and_self]
    exact this m
  have hl := lrel_zeros (vrel_cells (hτ.zero e te he ρ)) m
  have hzc : (Builtin.zeroCells te.zero.cells m).toList = zeros te.zero.cells.toList m := by
    have := zeros_range te.zero.cells m
    unfold Builtin.zeroCells
    rw [this]
  rcases open_or hs hV hx with ⟨sl', cc, hi, hgo, rfl⟩ | ⟨rfl, rfl, rfl, hx2⟩
  · obtain ⟨w', h1, h2, h3⟩ := put_open (P := P) (off := off) hs hV hi hgo hl (by omega) hone
    refine ⟨undef, w', ρ, ?_, vrel_tuple lrel_nil, h2, h3, fun _ _ => rfl⟩
    cases m with
    | zero =>
      simp only [zeros, storeCells, Sem.run_pure, Result.ok.injEq, true_and] at h1
      subst h1
      simp [Builtin.clear_, run_underlying hu]; rfl
    | succ m =>
      simp [Builtin.clear_, run_underlying hu, zeroValue, typeInfo, hf, hfz, hzc, h1]; rfl
  · have hov := over_void (off := 0) hV rfl rfl (show zeros te.zero.cells.toList 0 = [] from rfl)
    refine ⟨undef, w, ρ, ?_, vrel_tuple lrel_nil, by rw [hov]; exact hs, by rw [hov]; exact .refl _ _ _, fun _ _ => rfl⟩
    rcases hx2 with rfl | ⟨a, rfl⟩ <;> (simp [Builtin.clear_, run_underlying hu]; rfl)

theorem evBytes_ok (hτ : TyOk P τ) (hs : Sim ρ V w) {src dst : Nat} {x x' : Value} {r : Res} (hx : VRel ρ x x') (hn : ∀ i, n ≤ i → i < n + r.k → ρ i = none) (h : evBytes τ n src dst x = some r) : ValOk P (convert src dst x') ρ V w n r := by
  unfold evBytes at h
  split at h
  case h_2 => cases h
  rename_i ts td hts htd
  split at h
  case h_2 => cases h
  rename_i e s h1 h2
  split at h
  case h_2 => cases h
  rename_i te hte
  split at h
  case h_2 => cases h
  rename_i h3
  split at h
  case isFalse => cases h
  rename_i hsz
  cases h
  cases hx
  have hs1 : P.underlying src = some .string := by rw [hτ.under _ _ hts, h1]
  have hd1 : P.underlying dst = some (.slice e) := by rw [hτ.under _ _ htd, h2]
  have he1 : P.underlying e = some (.int .u8) := by rw [hτ.under _ _ hte, h3]
  have hrun := run_bytes_of_string (P := P) w src dst e s hs1 hd1 he1
  have hrow : bytesRow s (grownCap w s.size 0 e) = (u8s s).toArray ++ Array.replicate (grownCap w s.size 0 e - s.size) (.int .u8 0) := by
    unfold bytesRow u8s
    apply Array.ext'; simp
  have hge : s.size ≤ grownCap w s.size 0 e := grownCap_ge _ _ _ _
  have hul : (u8s s).length = s.size := by simp [u8s]
  refine ValOk.new (cap := some (grownCap w s.size 0 e, 1)) (w' := w.drew.alloc (.cells (bytesRow s (grownCap w s.size 0 e)) e ((bytesRow s (grownCap w s.size 0 e)).size, (bytesRow s (grownCap w s.size 0 e)).size + 1))) hs (hn n (Nat.le_refl _) (by simp)) (gone_pos rfl (by omega)) ⟨rfl, rfl, rfl, rfl⟩ hrun ?_ ?_
  · refine .opn (c1 := u8s s) (c2 := (Array.replicate (grownCap w s.size 0 e - s.size) (Value.int .u8 0)).toList) (k := grownCap w s.size 0 e) e rfl rfl (lrel_u8s s) (by rw [hrow]; simp) ?_ (by omega) _ (.inl (Nat.le_refl _))
    rw [hrow]; simp [hul]; omega
  · have := VRel.oslice (ρ := extR ρ n ⟨w.heap.size, some (grownCap w s.size 0 e, 1), 0⟩) (i := n) (off := 0) (n := s.size) (e := 0) (k := grownCap w s.size 0 e) (sz := 1) (s := ⟨w.heap.size, some (grownCap w s.size 0 e, 1), 0⟩) (extR_self _ _ _) rfl (by omega) (by simp) (by omega)
    simpa using this

end
end Go.Proofs.Yticaicdopfpknaa.Vm
