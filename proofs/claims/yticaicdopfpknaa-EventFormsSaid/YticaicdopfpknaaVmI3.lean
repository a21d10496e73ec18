/- append. No program in it. -/
import Derived.Test.YticaicdopfpknaaVmI2
import Derived.Laws.AppendOwn
set_option linter.unusedVariables false
set_option linter.unusedSimpArgs false
namespace Go.Proofs.Yticaicdopfpknaa.Vm
open Go

/-- What is appended: its cells, how many elements, the names read. -/
def evNews (V : Heap) (sz : Nat) (x : Value) : Option (List Value × Nat × List Nat) :=
  match x with
  | .slice none 0 0 => some ([], 0, [])
  | .slice (some ⟨j, off, none⟩) m _ => match (V j).bind cellsOf with
    | some c => if off + m * sz ≤ c.length then some ((c.drop off).take (m * sz), m, [j]) else none
    | none => none
  | _ => none

def evAppend (τ : Nat → Option TI) (V : Heap) (n t : Nat) (s x : Value) : Option Res :=
  match τ t with
  | none => none
  | some ti => match ti.desc with
    | .slice e => match τ e with
      | none => none
      | some te => match evNews V te.size x with
        | none => none
        | some (news, m, rs) =>
          if 0 < te.size ∧ news.all Value.oneCell' = true then
            match s with
            | .slice none 0 0 => if m * te.bytes ≤ 140737488355328 ∧ m ≤ 140737488355328 then some ⟨.slice (some ⟨n, 0, none⟩) m 0, [(n, some (.opn news e te.size))], 1, rs⟩ else none
            | .slice (some ⟨i, 0, none⟩) l cap =>
              if (l + m) * te.bytes ≤ 140737488355328 ∧ l + m ≤ 140737488355328 then
                match V i with
                | some (.opn c e' sz') => if e' = e ∧ sz' = te.size ∧ l * te.size ≤ c.length then some ⟨.slice (some ⟨n, 0, none⟩) (l + m) 0, [(i, none), (n, some (.opn (c.take (l * te.size) ++ news) e te.size))], 1, i :: rs⟩ else none
                | some (.cells c _ _) => if cap < l + m ∧ l * te.size ≤ c.length ∧ 0 < m then some ⟨.slice (some ⟨n, 0, none⟩) (l + m) 0, [(n, some (.opn (c.take (l * te.size) ++ news) e te.size))], 1, i :: rs⟩ else none
                | _ => none
              else none
            | _ => none
          else none
    | _ => none

/-- One that fits into what is known: in its place. -/
def evAppendIn (τ : Nat → Option TI) (V : Heap) (t : Nat) (s x : Value) : Option Res :=
  match τ t with
  | none => none
  | some ti => match ti.desc with
    | .slice e => match τ e with
      | none => none
      | some te => match evNews V te.size x with
        | none => none
        | some (news, m, rs) =>
          if 0 < te.size ∧ news.all Value.oneCell' = true then
            match s with
            | .slice (some ⟨i, 0, none⟩) l _ =>
                match V i with
                | some (.opn c e' sz') => if e' = e ∧ sz' = te.size ∧ (l + m) * te.size ≤ c.length then some ⟨.slice (some ⟨i, 0, none⟩) (l + m) 0, [(i, some (.opn (splice c (l * te.size) news) e te.size))], 0, i :: rs⟩ else none
                | _ => none
            | _ => none
          else none
    | _ => none

section
variable {P : Program} {τ : Nat → Option TI} {ρ : Ren} {V : Heap} {w : World} {n : Nat}

/-- A name's object under a new name. -/
theorem sim_ren (hs : Sim ρ V w) {i : Nat} {o : VObj} {s : Slot} (hV : V i = some o) (hi : ρ i = some s) (hf : o.fixed = false) (hn : ρ n = none) : Sim (extR ρ n s) (upd (upd V n (some o)) i none) w := by
  have hpre : Ext ρ (extR ρ n s) := Ext.extR hn _
  have hni : n ≠ i := fun e => by rw [e, hi] at hn; cases hn
  have hcase : ∀ j p, upd (upd V n (some o)) i none j = some p → (j = n ∧ p = o) ∨ (j ≠ n ∧ j ≠ i ∧ V j = some p) := by
    intro j p h
    by_cases h1 : j = i
    · subst h1; simp [upd] at h
    · by_cases h2 : j = n
      · subst h2; simp only [upd, if_neg h1, if_true, Option.some.injEq] at h; exact .inl ⟨rfl, h.symm⟩
      · simp only [upd, if_neg h1, if_neg h2] at h; exact .inr ⟨h2, h1, h⟩
  constructor
  · intro j p h
    rcases hcase j p h with ⟨rfl, rfl⟩ | ⟨h1, h2, h3⟩
    · obtain ⟨s', g1, g2⟩ := hs.has i _ hV
      rw [hi] at g1; cases g1
      exact ⟨s, by simp [extR], g2.mono hpre fun _ => rfl⟩
    · obtain ⟨s', g1, g2⟩ := hs.has j p h3
      exact ⟨s', hpre _ _ g1, g2.mono hpre fun _ => rfl⟩
  · have old : ∀ j t, j ≠ n → extR ρ n s j = some t → ρ j = some t := fun j t h1 h2 => by simpa [extR, h1] using h2
    intro a b p q t u hab hp hq ht hu ht' hu' hfx
    rcases hcase a p hp with ⟨rfl, rfl⟩ | ⟨h1, h2, h3⟩ <;> rcases hcase b q hq with ⟨rfl, rfl⟩ | ⟨k1, k2, k3⟩
    · exact (hab rfl).elim
    · simp only [extR, if_true, Option.some.injEq] at ht; subst ht
      exact hs.apart i b _ _ _ _ (Ne.symm k2) hV k3 hi (old b u k1 hu) ht' hu' (by simp [hf])
    · simp only [extR, if_true, Option.some.injEq] at hu; subst hu
      exact hs.apart a i _ _ _ _ h2 h3 hV (old a t h1 ht) hi ht' hu' (by simp [hf])
    · exact hs.apart a b _ _ _ _ hab h3 k3 (old a t h1 ht) (old b u k1 hu) ht' hu' hfx

/-- It is turned, and gets a new name. -/
theorem sim_move {w' : World} (hs : Sim ρ V w) {i : Nat} {o o1 : VObj} {o' : Obj} {s : Slot} (hV : V i = some o) (hf : o.fixed = false) (hf1 : o1.fixed = false) (hi : ρ i = some s) (hgo : s.gone = false) (hn : ρ n = none) (hw : Wrote s.blk w w')
    (ho : w'.heap[s.blk]? = some o') (hr : ORel ρ s o1 o') : Sim (extR ρ n s) (over V [(i, none), (n, some o1)]) w' ∧ Keep ρ V w (extR ρ n s) (over V [(i, none), (n, some o1)]) w' := by
  obtain ⟨h1, h2⟩ := sim_put hs hV hf hf1 hi hgo hw ho hr
  have hni : n ≠ i := fun e => by rw [e, hi] at hn; cases hn
  have e : over V [(i, none), (n, some o1)] = upd (upd (upd V i (some o1)) n (some o1)) i none := by
    rw [over_cons, over_cons, over_nil]
    funext j
    simp only [upd]
    split
    · rfl
    · split
      · rfl
      · rfl
  rw [e]
  have hV1 : upd V i (some o1) i = some o1 := by simp [upd]
  refine ⟨sim_ren h1 hV1 hi hf1 hn, { h2 with new := ?_ }⟩
  rintro b ⟨j, p, t, hj, hpf, ht, ht', hb⟩
  by_cases hji : j = i
  · subst hji; simp [upd] at hj
  · by_cases hjn : j = n
    · subst hjn
      simp only [extR, if_true, Option.some.injEq] at ht; subst ht
      exact .inl ⟨i, o, s, hV, hf, hi, ht', hb⟩
    · simp only [upd, if_neg hji, if_neg hjn] at hj
      simp only [extR, if_neg hjn] at ht
      exact .inl ⟨j, p, t, hj, hpf, ht, ht', hb⟩

/-- What is appended, in the world. -/
theorem news_of (hs : Sim ρ V w) {sz m : Nat} {x x' : Value} {news : List Value} {rs : List Nat} (hx : VRel ρ x x') (h : evNews V sz x = some (news, m, rs)) :
    ∃ news', LRel ρ news news' ∧ news'.length = m * sz ∧ (Builtin.lenOf x').run P w = .ok m w ∧ (Builtin.firstCells sz m x').run P w = .ok news'.toArray w ∧
      (0 < m → ∃ a c, x' = .slice (some a) m c ∧ ∀ (j : Nat) v, news'[j]? = some v → w.cell? (a.add j) = some v) := by
  unfold evNews at h
  split at h
  · cases h; cases hx; exact ⟨[], lrel_nil, by simp, rfl, rfl, fun h => by omega⟩
  · rename_i j off m' cp
    split at h
    case h_2 => cases h
    rename_i c hc
    split at h
    case isFalse => cases h
    rename_i hle
    cases h
    cases hg : V j with
    | none => simp [hg] at hc
    | some o =>
    simp only [hg, Option.bind_some] at hc
    obtain ⟨s', c', h1, h3, h2⟩ := block_of hs hg hc
    have hlc := h3.1
    have hcell : ∀ (k : Nat) v, ((c'.drop off).take (m * sz))[k]? = some v → w.cell? ((⟨s'.blk, s'.base + off, none⟩ : Addr).add k) = some v := by
      intro k v hv
      rw [add_none]
      rw [List.getElem?_take] at hv
      split at hv
      · rw [List.getElem?_drop] at hv; rw [Nat.add_assoc]; exact h2 _ _ hv
      · cases hv
    have hlen : ((c'.drop off).take (m * sz)).length = m * sz := by simp only [List.length_take, List.length_drop]; omega
    have fin : ∀ (cc : Nat), x' = .slice (some ⟨s'.blk, s'.base + off, none⟩) m cc → _ := fun cc he =>
      (⟨(c'.drop off).take (m * sz), lrel_take (lrel_drop h3 off) _, hlen, by rw [he]; rfl, by rw [he]; exact run_firstCells_some (P := P) w sz m _ m cc _ hlen hcell, fun _ => ⟨_, cc, he, hcell⟩⟩ :
        ∃ news', LRel ρ ((c.drop off).take (m * sz)) news' ∧ news'.length = m * sz ∧ (Builtin.lenOf x').run P w = .ok m w ∧ (Builtin.firstCells sz m x').run P w = .ok news'.toArray w ∧
          (0 < m → ∃ a c, x' = .slice (some a) m c ∧ ∀ (j : Nat) v, news'[j]? = some v → w.cell? (a.add j) = some v))
    cases hx with
    | slice hi hcp => rw [hi] at h1; cases h1; exact fin _ rfl
    | oslice hi hcp hz he hn => rw [hi] at h1; cases h1; exact fin _ rfl
    | ghost hi hcp => exact ⟨[], by simpa using lrel_nil, by simp, rfl, rfl, fun h => by omega⟩
    | hollow hi hcp => exact ⟨[], by simpa using lrel_nil, by simp, rfl, by simp [Builtin.firstCells, loadCells, loadCellsFrom], fun h => by omega⟩
  · cases h

/-- There is room. -/
theorem run_append_stay {t ty e : TypeId} {i : TypeInfo} (ht : P.underlying t = some (.slice e)) (hi : P.info? e = some i) {a : Addr} {l cap m : Nat} {x' : Value} {news : List Value} (hl : (Builtin.lenOf x').run P w = .ok m w)
    (hf : (Builtin.firstCells i.size m x').run P w = .ok news.toArray w) (hroom : l + m ≤ cap) {w' : World} (hrun : (storeCells (a.add (l * i.size)) news).run P w = .ok () w') :
    (Builtin.append_ #[t, t] ty #[.slice (some a) l cap, x']).run P w = .ok (.slice (some a) (l + m) cap) w' := by
  simp [Builtin.append_, run_underlying ht, sizeOf, typeInfo, hi, hl, hroom, hf, hrun]

theorem run_append_none {t ty e : TypeId} {i : TypeInfo} (ht : P.underlying t = some (.slice e)) (hi : P.info? e = some i) {x' : Value} (hl : (Builtin.lenOf x').run P w = .ok 0 w)
    (hf : (Builtin.firstCells i.size 0 x').run P w = .ok #[] w) : (Builtin.append_ #[t, t] ty #[.slice none 0 0, x']).run P w = .ok (.slice none 0 0) w := by
  simp [Builtin.append_, run_underlying ht, sizeOf, typeInfo, hi, hl, hf]

/-- A new name of nothing, in a place. -/
theorem ValOk.gone {x : Sem Value} {o : VObj} {s : Slot} {v v' : Value} {rs : List Nat} (hs : Sim ρ V w) (hn : ρ n = none) (hg : s.gone = true) (ho : o.void = true) (ht : s.thin = true) (h : x.run P w = .ok v' w) (hv : VRel (extR ρ n s) v v') : ValOk P x ρ V w n ⟨v, [(n, some o)], 1, rs⟩ := by
  obtain ⟨h1, h2⟩ := sim_add (w' := w) (s := s) (o := o) hs hn (fun h => by rw [hg] at h; cases h) ⟨rfl, rfl, rfl, Nat.le_refl _⟩ (fun _ _ => rfl) (.inl ⟨hg, ho, .inr ht⟩)
  refine ⟨v', w, _, h, hv, ?_, ?_, ?_⟩
  · rw [over_cons, over_nil]; exact h1
  · rw [over_cons, over_nil]; exact h2
  · intro i hi
    simp only [extR]
    rw [if_neg (by simp only at hi; omega)]

theorem new_row {e : TypeId} {sz : Nat} {cs cs' : List Value} {k l : Nat} {z : Value} {w' : World} {x : Sem Value} {rs : List Nat} (hs : Sim ρ V w) (hn : ρ n = none) (hl : LRel ρ cs cs') (hcs : cs'.length = l * sz) (hz0 : z.cells.size = sz) (hz : 0 < sz) (hk : l ≤ k)
    (hw : w' = w.drew.alloc (.cells (cs'.toArray ++ Builtin.zeroCells z.cells (k - l)) e)) (h : x.run P w = .ok (.slice (some ⟨w.heap.size, 0, none⟩) l k) w') :
    ValOk P x ρ V w n ⟨.slice (some ⟨n, 0, none⟩) l 0, [(n, some (.opn cs e sz))], 1, rs⟩ := by
  have h1 : ValOk P x ρ V w n ⟨.slice (some ⟨n, 0, none⟩) l 0, [(n, some (.opn cs e sz))], 1, []⟩ := by
    refine ValOk.new (o' := .cells (cs'.toArray ++ Builtin.zeroCells z.cells (k - l)) e (0, 0)) (cap := some (k, sz)) (w' := w') hs hn (gone_pos rfl hz) ?_ h ?_ ?_
    · subst hw; exact ⟨rfl, rfl, rfl, rfl⟩
    · refine .opn (c1 := cs') (c2 := (Builtin.zeroCells z.cells (k - l)).toList) (k := k) e rfl rfl (hl.mono (Ext.extR hn _)) (by simp) ?_ hz (0, 0) (.inr rfl)
      simp only [Array.size_append, List.size_toArray, size_zeroCells, hz0, hcs, ← Nat.add_mul]
      congr 1; omega
    · have := VRel.oslice (ρ := extR ρ n ⟨w.heap.size, some (k, sz), 0⟩) (i := n) (off := 0) (n := l) (e := 0) (k := k) (sz := sz) (s := ⟨w.heap.size, some (k, sz), 0⟩) (extR_self _ _ _) rfl hz (by simp) (by omega)
      simpa using this
  exact h1

theorem valok_drop {x : Sem Value} {v : Value} {L : List (Nat × Option VObj)} {k i : Nat} {rs rs' : List Nat} (h : ValOk P x ρ V w n ⟨v, L, k, rs⟩) : ValOk P x ρ V w n ⟨v, (i, none) :: L, k, rs'⟩ := by
  obtain ⟨v', w', ρ', h1, h2, h3, h4, h5⟩ := h
  have hsub : ∀ j o, over V ((i, none) :: L) j = some o → over V L j = some o := by
    intro j o h
    rw [over_cons] at h
    simp only [upd] at h
    split at h
    · cases h
    · exact h
  exact ⟨v', w', ρ', h1, h2, h3.sub hsub, h4.sub hsub, h5⟩

/-- Onto an open one. -/
theorem append_open (hτ : TyOk P τ) (hzs : ∀ t ti, τ t = some ti → ti.zero.cells.size = ti.size) (hs : Sim ρ V w) {t ty e : Nat} {ti te : TI} (ht : τ t = some ti) (hd : ti.desc = .slice e) (he : τ e = some te) {i l cap m : Nat} {s' x x' : Value} {news c : List Value} {rs rs' : List Nat}
    (hx1 : VRel ρ (.slice (some ⟨i, 0, none⟩) l cap) s') (hx : VRel ρ x x') (hnews : evNews V te.size x = some (news, m, rs)) (hsz : 0 < te.size) (hone : news.all Value.oneCell' = true) (hb : (l + m) * te.bytes ≤ 140737488355328 ∧ l + m ≤ 140737488355328)
    (hV : V i = some (.opn c e te.size)) (hle : l * te.size ≤ c.length) (hn : ρ n = none) :
    ValOk P (Builtin.append_ #[t, t] ty #[s', x']) ρ V w n ⟨.slice (some ⟨n, 0, none⟩) (l + m) 0, [(i, none), (n, some (.opn (c.take (l * te.size) ++ news) e te.size))], 1, rs'⟩ := by
  have hu : P.underlying t = some (.slice e) := by rw [hτ.under t ti ht, hd]
  obtain ⟨f, hf, hfs, hfb, hfz⟩ := hτ.info e te he
  have hz0 := hzs e te he
  obtain ⟨news', hl, hlen, hlx, hfx, hpos⟩ := news_of (P := P) hs hx hnews
  rw [← hfs] at hfx
  have hthin : ∀ s, ρ i = some s → s.gone = true → s.thin = true := by
    intro s hi hg
    obtain ⟨s1, h1, hat⟩ := hs.has i _ hV
    rw [hi] at h1; cases h1
    rcases hat with ⟨_, _, h | h⟩ | ⟨hg', _⟩
    · cases h
    · exact h
    · rw [hg] at hg'; cases hg'
  -- nothing onto nothing
  have void0 : ∀ (s : Slot) (a : Option Addr), s.gone = true → ρ i = some s → l = 0 → m = 0 → (Builtin.append_ #[t, t] ty #[.slice a 0 0, x']).run P w = .ok (.slice a 0 0) w → VRel (extR ρ n s) (.slice (some ⟨n, 0, none⟩) 0 0) (.slice a 0 0) →
      ValOk P (Builtin.append_ #[t, t] ty #[.slice a 0 0, x']) ρ V w n ⟨.slice (some ⟨n, 0, none⟩) (l + m) 0, [(i, none), (n, some (.opn (c.take (l * te.size) ++ news) e te.size))], 1, rs'⟩ := by
    rintro s a hg hi rfl rfl hrun hv
    have hnl : news = [] := by
      have := hl.1
      rw [hlen, Nat.zero_mul] at this
      exact List.length_eq_zero_iff.1 this
    subst hnl
    simp only [Nat.zero_mul, List.take_zero, List.nil_append, Nat.add_zero]
    exact valok_drop (rs := []) (ValOk.gone hs hn hg rfl (hthin s hi hg) hrun hv)
  cases hx1 with
  | slice hi hcp =>
    exfalso
    obtain ⟨o2, _, g3⟩ := hs.at_ hV hi (gone_none hcp)
    cases g3 with | opn _ hcap2 => rw [hcap2] at hcp; cases hcp
  | ghost hi hcp =>
    rename_i s0
    by_cases hm : m = 0
    · subst hm
      have hnl' : news' = [] := List.length_eq_zero_iff.1 (by rw [hlen, Nat.zero_mul])
      subst hnl'
      exact void0 _ none (gone_zero hcp) hi rfl rfl (run_append_none hu hf hlx hfx) (.ghost (extR_self _ _ _) hcp)
    · obtain ⟨a, c', rfl, hcell⟩ := hpos (by omega)
      refine valok_drop (rs := []) ?_
      simp only [Nat.zero_mul, List.take_zero, List.nil_append, Nat.zero_add] at hb ⊢
      refine new_row (k := grownCap w m 0 e) (cs' := news') (z := te.zero) (w' := _) hs hn hl hlen hz0 hsz (grownCap_ge _ _ _ _) rfl ?_
      exact run_append_nil w t ty e f te.zero hu hf hfz a m c' news' (by rw [hfs]; exact hlen) hcell (by omega) (by omega) (by rw [hfb]; omega)
  | hollow hi hcp =>
    rename_i c0 s0
    obtain rfl := thin_cap hcp (hthin _ hi (gone_zero hcp))
    by_cases hm : m = 0
    · subst hm
      have hnl' : news' = [] := List.length_eq_zero_iff.1 (by rw [hlen, Nat.zero_mul])
      subst hnl'
      exact void0 _ _ (gone_zero hcp) hi rfl rfl (run_append_stay hu hf hlx hfx (Nat.le_refl _) (by simp [storeCells])) (.hollow (extR_self _ _ _) hcp)
    · obtain ⟨a, c', rfl, hcell⟩ := hpos (by omega)
      refine valok_drop (rs := []) ?_
      simp only [Nat.zero_mul, List.take_zero, List.nil_append, Nat.zero_add] at hb ⊢
      refine new_row (k := grownCap w (0 + m) 0 e) (cs' := news') (z := te.zero) (w' := _) hs hn hl hlen hz0 hsz (by have := grownCap_ge w (0 + m) 0 e; omega) rfl ?_
      have := run_append_grow (P := P) w t ty e f te.zero hu hf hfz ⟨s0.blk, s0.base, none⟩ 0 0 [] (by simp) (fun j v h => by simp at h) a m c' news' (by rw [hfs]; exact hlen) hcell (by omega) (by omega) (by rw [hfb]; exact growslice_fits (by omega) (by rw [Nat.zero_add]; omega))
      simpa using this
  | oslice hi hcap2 hz2 hee hnk =>
    rename_i e0 k0 sz0 sl
    obtain ⟨o', g2, g3⟩ := hs.at_ hV hi (gone_pos hcap2 hz2)
    cases g3 with
    | @opn _ c1 c2 c' k _ _ hcap3 hb0 hl2 hcc hk hz' fr hfr =>
    rw [hcap2] at hcap3; cases hcap3
    obtain rfl : e0 = 0 := by rcases Nat.mul_eq_zero.1 hee with h | h <;> omega
    rw [Nat.sub_zero, hb0]
    have hlc := hl2.1
    have hcl : c1.length ≤ c'.size := by have := congrArg List.length hcc; simp only [Array.length_toList, List.length_append] at this; omega
    have holen : (c1.take (l * te.size)).length = l * te.size := by rw [List.length_take]; omega
    have hcs : (c1.take (l * te.size) ++ news').length = (l + m) * te.size := by rw [List.length_append, holen, hlen, Nat.add_mul]
    have htake : c'.toList.take (l * te.size) = c1.take (l * te.size) := by rw [hcc, List.take_append_of_le_length (by omega)]
    have hgo := gone_pos hcap2 hz2
    by_cases hroom : l + m ≤ k0
    · have hfit : l * te.size + m * te.size ≤ c'.size := by rw [hk, ← Nat.add_mul]; exact Nat.mul_le_mul_right _ hroom
      have hone' : ∀ v ∈ news', v.oneCell' = true := lrel_one hl hone
      obtain ⟨w', hrun, hwr, hw'⟩ := run_storeCells (P := P) (off := l * te.size) (fr := fr) news' 0 w c' g2 (by omega) hone' (by
        intro j h1 h2 ⟨h3, h4⟩
        rcases hfr with h | h <;> omega)
      rw [Nat.add_zero] at hw'
      have hor : ORel ρ sl (.opn (c.take (l * te.size) ++ news) e te.size) (.cells (splice c'.toList (l * te.size) news').toArray e fr) := by
        refine .opn (c1 := c1.take (l * te.size) ++ news') (c2 := c'.toList.drop (l * te.size + news'.length)) (k := k0) e hcap2 hb0 (lrel_append (lrel_take hl2 _) hl) ?_ ?_ hz' fr ?_
        · simp only [splice, htake]
        · simp only [splice, List.size_toArray, List.length_append, List.length_take, List.length_drop, Array.length_toList, hlen]
          rw [← hk]; omega
        · rcases hfr with h | h
          · left
            simp only [splice, List.size_toArray, List.length_append, List.length_take, List.length_drop, Array.length_toList, hlen]
            omega
          · exact .inr h
      obtain ⟨q1, q2⟩ := sim_move (n := n) (o1 := .opn (c.take (l * te.size) ++ news) e te.size) hs hV rfl rfl hi hgo hn hwr hw' hor
      have hadd : (⟨sl.blk, 0 + 0, none⟩ : Addr).add (l * f.size) = ⟨sl.blk, l * te.size, none⟩ := by rw [add_none, hfs]; simp
      refine ⟨.slice (some ⟨sl.blk, 0 + 0, none⟩) (l + m) k0, w', _, run_append_stay hu hf hlx hfx hroom (by rw [hadd]; exact hrun), ?_, q1, q2, ?_⟩
      · have := VRel.oslice (ρ := extR ρ n sl) (i := n) (off := 0) (n := l + m) (e := 0) (k := k0) (sz := te.size) (s := sl) (extR_self _ _ _) hcap2 hz' (by simp) (by omega)
        simpa [hb0] using this
      · intro j hj
        simp only [extR]
        rw [if_neg (by simp only at hj; omega)]
    · obtain ⟨a, cx, rfl, hcell⟩ := hpos (by omega)
      refine valok_drop (rs := []) ?_
      refine new_row (k := grownCap w (l + m) k0 e) (cs' := c1.take (l * te.size) ++ news') (z := te.zero) (w' := _) hs hn (lrel_append (lrel_take hl2 _) hl) hcs hz0 hsz (grownCap_ge _ _ _ _) rfl ?_
      have := run_append_grow (P := P) w t ty e f te.zero hu hf hfz ⟨sl.blk, 0 + 0, none⟩ l k0 (c1.take (l * te.size)) (by rw [hfs]; exact holen) (fun j v hv => by
        rw [add_none, cell_of w g2, ← Array.getElem?_toList, hcc]
        rw [List.getElem?_take] at hv
        split at hv
        · simp only [Nat.zero_add]; rw [List.getElem?_append_left (List.getElem?_eq_some_iff.1 hv).1]; exact hv
        · cases hv) a m cx news' (by rw [hfs]; exact hlen) hcell (by omega) (by omega) (by rw [hfb]; exact growslice_fits (by omega) (by omega))
      rw [this]
      congr 2
      simp

theorem evAppend_ok (hτ : TyOk P τ) (hzs : ∀ t ti, τ t = some ti → ti.zero.cells.size = ti.size) (hs : Sim ρ V w) {t ty : Nat} {s s' x x' : Value} {r : Res} (hx1 : VRel ρ s s') (hx : VRel ρ x x') (hn : ∀ i, n ≤ i → i < n + r.k → ρ i = none)
    (h : evAppend τ V n t s x = some r) : ValOk P (Builtin.append_ #[t, t] ty #[s', x']) ρ V w n r := by
  unfold evAppend at h
  split at h
  case h_1 => cases h
  rename_i ti ht
  split at h
  case h_2 => cases h
  rename_i e hd
  split at h
  case h_1 => cases h
  rename_i te he
  split at h
  case h_1 => cases h
  rename_i news m rs hnews
  split at h
  case isFalse => cases h
  rename_i hc
  obtain ⟨hsz, hone⟩ := hc
  have hu : P.underlying t = some (.slice e) := by rw [hτ.under t ti ht, hd]
  obtain ⟨f, hf, hfs, hfb, hfz⟩ := hτ.info e te he
  have hz0 := hzs e te he
  split at h
  · split at h
    case isFalse => cases h
    rename_i hb
    cases h
    cases hx1
    obtain ⟨news', hl, hlen, hlx, hfx, hpos⟩ := news_of (P := P) hs hx hnews
    have hn0 := hn n (Nat.le_refl _) (by simp)
    by_cases hm : m = 0
    · subst hm
      have hnl' : news' = [] := List.length_eq_zero_iff.1 (by rw [hlen, Nat.zero_mul])
      subst hnl'
      have hnl : news = [] := List.length_eq_zero_iff.1 (by rw [hl.1]; rfl)
      subst hnl
      rw [← hfs] at hfx
      exact ValOk.void hs hn0 rfl (run_append_none hu hf hlx hfx) (.ghost (extR_self _ _ _) rfl)
    · obtain ⟨a, c', rfl, hcell⟩ := hpos (by omega)
      refine new_row (k := grownCap w m 0 e) (cs' := news') (z := te.zero) (w' := _) hs hn0 hl hlen hz0 hsz (grownCap_ge _ _ _ _) rfl ?_
      exact run_append_nil w t ty e f te.zero hu hf hfz a m c' news' (by rw [hfs]; exact hlen) hcell (by omega) (by omega) (by rw [hfb]; omega)
  · rename_i i l cap
    split at h
    case isFalse => cases h
    rename_i hb
    split at h
    · rename_i cc e' sz' hV
      split at h
      case isFalse => cases h
      rename_i hcond
      obtain ⟨rfl, rfl, hle⟩ := hcond
      cases h
      exact append_open hτ hzs hs ht hd he hx1 hx hnews hsz hone hb hV hle (hn n (Nat.le_refl _) (by simp))
    · rename_i cc e' fr hV
      split at h
      case isFalse => cases h
      rename_i hcap
      cases h
      obtain ⟨sl, c', h1, h3, h2⟩ := block_of hs hV rfl
      have hreal : sl.cap = none := by
        obtain ⟨s2, o2, g1, _, _, g3⟩ := hs.real hV rfl
        rw [h1] at g1; cases g1
        cases g3 with | cells _ _ hcap2 _ _ => exact hcap2
      obtain ⟨news', hl, hlen, hlx, hfx, hpos⟩ := news_of (P := P) hs hx hnews
      cases hx1 with
      | oslice hi hcp _ _ _ => rw [h1] at hi; cases hi; rw [hreal] at hcp; cases hcp
      | ghost hi hcp => rw [h1] at hi; cases hi; rw [hreal] at hcp; cases hcp
      | hollow hi hcp => rw [h1] at hi; cases hi; rw [hreal] at hcp; cases hcp
      | slice hi hcp =>
        rw [hi] at h1; cases h1
        have hlc := h3.1
        have holen : (c'.take (l * te.size)).length = l * te.size := by rw [List.length_take]; omega
        have hcs : (c'.take (l * te.size) ++ news').length = (l + m) * te.size := by rw [List.length_append, holen, hlen, Nat.add_mul]
        by_cases hm : m = 0
        · exfalso
          have := hcap.2.2
          omega
        obtain ⟨a, c, rfl, hcell⟩ := hpos (by omega)
        refine new_row (k := grownCap w (l + m) cap e) (cs' := c'.take (l * te.size) ++ news') (z := te.zero) (w' := _) hs (hn n (Nat.le_refl _) (by simp)) (lrel_append (lrel_take h3 _) hl) hcs hz0 hsz (grownCap_ge _ _ _ _) rfl ?_
        have := run_append_grow (P := P) w t ty e f te.zero hu hf hfz ⟨sl.blk, sl.base + 0, none⟩ l cap (c'.take (l * te.size)) (by rw [hfs]; exact holen) (fun j v hv => by
          rw [add_none]
          rw [List.getElem?_take] at hv
          split at hv
          · exact h2 _ _ hv
          · cases hv) a m c news' (by rw [hfs]; exact hlen) hcell hcap.1 (by omega) ?_
        · rw [this]
          congr 2
          simp
        · rw [hfb]; exact growslice_fits hcap.1 (by omega)
    · cases h
  · cases h

theorem evAppendIn_ok (hτ : TyOk P τ) (hs : Sim ρ V w) {t ty : Nat} {s s' x x' : Value} {r : Res} (hx1 : VRel ρ s s') (hx : VRel ρ x x') (h : evAppendIn τ V t s x = some r) : ValOk P (Builtin.append_ #[t, t] ty #[s', x']) ρ V w n r := by
  unfold evAppendIn at h
  split at h
  case h_1 => cases h
  rename_i ti ht
  split at h
  case h_2 => cases h
  rename_i e hd
  split at h
  case h_1 => cases h
  rename_i te he
  split at h
  case h_1 => cases h
  rename_i news m rs hnews
  split at h
  case isFalse => cases h
  rename_i hc
  obtain ⟨hsz, hone⟩ := hc
  have hu : P.underlying t = some (.slice e) := by rw [hτ.under t ti ht, hd]
  obtain ⟨f, hf, hfs, hfb, hfz⟩ := hτ.info e te he
  split at h
  case h_2 => cases h
  rename_i i l cap
  split at h
  case h_2 => cases h
  rename_i c e' sz' hV
  split at h
  case isFalse => cases h
  rename_i hcond
  obtain ⟨rfl, rfl, hle⟩ := hcond
  cases h
  obtain ⟨news', hl, hlen, hlx, hfx, hpos⟩ := news_of (P := P) hs hx hnews
  rw [← hfs] at hfx
  have hnlen : news.length = m * te.size := by rw [hl.1, hlen]
  -- nothing at all
  have void0 : ∀ (s : Slot) (a : Option Addr), s.gone = true → ρ i = some s → l = 0 → (m = 0 → (Builtin.append_ #[t, t] ty #[.slice a 0 0, x']).run P w = .ok (.slice a 0 0) w) → VRel ρ (.slice (some ⟨i, 0, none⟩) 0 0) (.slice a 0 0) →
      ValOk P (Builtin.append_ #[t, t] ty #[.slice a 0 0, x']) ρ V w n ⟨.slice (some ⟨i, 0, none⟩) (l + m) 0, [(i, some (.opn (splice c (l * te.size) news) e' te.size))], 0, i :: rs⟩ := by
    rintro s a hg hi rfl hrun hv
    obtain ⟨s1, h1, hat⟩ := hs.has i _ hV
    rw [hi] at h1; cases h1
    rcases hat with ⟨_, hvd, _⟩ | ⟨hg', _⟩
    · cases c with
      | cons _ _ => cases hvd
      | nil =>
      have hm : m = 0 := by
        simp only [List.length_nil, Nat.le_zero_eq, Nat.mul_eq_zero] at hle
        omega
      subst hm
      have hnl : news = [] := List.length_eq_zero_iff.1 (by rw [hnlen, Nat.zero_mul])
      subst hnl
      have hsame : over V [(i, some (.opn (splice [] (0 * te.size) []) e' te.size))] = V := by
        rw [over_cons, over_nil]
        funext j
        simp only [upd]
        split
        · rename_i hj; subst hj; rw [hV]; simp [splice]
        · rfl
      refine ⟨_, w, ρ, hrun rfl, hv, ?_, ?_, fun _ _ => rfl⟩
      · rw [hsame]; exact hs
      · rw [hsame]; exact .refl _ _ _
    · rw [hg] at hg'; cases hg'
  cases hx1 with
  | slice hi hcp =>
    exfalso
    obtain ⟨o2, _, g3⟩ := hs.at_ hV hi (gone_none hcp)
    cases g3 with | opn _ hcap2 => rw [hcap2] at hcp; cases hcp
  | ghost hi hcp =>
    refine void0 _ none (gone_zero hcp) hi rfl (fun hm => ?_) (.ghost hi hcp)
    subst hm
    have hnl' : news' = [] := List.length_eq_zero_iff.1 (by rw [hlen, Nat.zero_mul])
    subst hnl'
    exact run_append_none hu hf hlx hfx
  | hollow hi hcp =>
    obtain rfl : _ = 0 := thin_cap hcp (by
      obtain ⟨s1, h1, hat⟩ := hs.has i _ hV
      rw [hi] at h1; cases h1
      rcases hat with ⟨_, _, h | h⟩ | ⟨hg', _⟩
      · cases h
      · exact h
      · rw [gone_zero hcp] at hg'; cases hg')
    refine void0 _ _ (gone_zero hcp) hi rfl (fun hm => ?_) (.hollow hi hcp)
    subst hm
    have hnl' : news' = [] := List.length_eq_zero_iff.1 (by rw [hlen, Nat.zero_mul])
    subst hnl'
    exact run_append_stay hu hf hlx hfx (Nat.le_refl _) (by simp [storeCells])
  | oslice hi hcap2 hz2 hee hnk =>
    rename_i e0 k0 sz0 sl
    have hgo := gone_pos hcap2 hz2
    obtain ⟨o', g2, g3⟩ := hs.at_ hV hi hgo
    cases g3 with
    | @opn _ c1 c2 c' k _ _ hcap3 hb0 hl2 hcc hk hz' fr hfr =>
    rw [hcap2] at hcap3; cases hcap3
    obtain rfl : e0 = 0 := by rcases Nat.mul_eq_zero.1 hee with h | h <;> omega
    rw [Nat.sub_zero, hb0]
    have hlc := hl2.1
    have hcl : c'.size = c1.length + c2.length := by have := congrArg List.length hcc; simpa using this
    have hfit : l * te.size + m * te.size ≤ c1.length := by rw [← Nat.add_mul]; omega
    have hroom : l + m ≤ k0 := by
      have : (l + m) * te.size ≤ k0 * te.size := by rw [Nat.add_mul]; omega
      exact Nat.le_of_mul_le_mul_right this hz2
    have hone' : ∀ v ∈ news', v.oneCell' = true := lrel_one hl hone
    obtain ⟨w', hrun, hwr, hw'⟩ := run_storeCells (P := P) (off := l * te.size) (fr := fr) news' 0 w c' g2 (by omega) hone' (by
      intro j h1 h2 ⟨h3, h4⟩
      rcases hfr with h | h <;> omega)
    rw [Nat.add_zero] at hw'
    have hor : ORel ρ sl (.opn (splice c (l * te.size) news) e' te.size) (.cells (splice c'.toList (l * te.size) news').toArray e' fr) := by
      refine .opn (c1 := splice c1 (l * te.size) news') (c2 := c2) (k := k0) e' hcap2 hb0 (lrel_splice hl2 hl _) ?_ ?_ hz' fr ?_
      · show splice c'.toList (l * te.size) news' = _
        rw [hcc]
        unfold splice
        rw [List.take_append_of_le_length (by omega), List.drop_append_of_le_length (by omega)]
        simp
      · rw [List.size_toArray, splice_length _ _ _ (by simp only [Array.length_toList]; omega)]; simpa using hk
      · rw [List.size_toArray, splice_length _ _ _ (by simp only [Array.length_toList]; omega)]; simpa using hfr
    obtain ⟨q1, q2⟩ := sim_put hs hV rfl rfl hi hgo hwr hw' hor
    have hadd : (⟨sl.blk, 0 + 0, none⟩ : Addr).add (l * f.size) = ⟨sl.blk, l * te.size, none⟩ := by rw [add_none, hfs]; simp
    refine ⟨.slice (some ⟨sl.blk, 0 + 0, none⟩) (l + m) k0, w', ρ, run_append_stay hu hf hlx hfx hroom (by rw [hadd]; exact hrun), ?_, ?_, ?_, fun _ _ => rfl⟩
    · have := VRel.oslice (ρ := ρ) (i := i) (off := 0) (n := l + m) (e := 0) (k := k0) (sz := te.size) (s := sl) hi hcap2 hz' (by simp) (by omega)
      simpa [hb0] using this
    · rw [over_cons, over_nil]; exact q1
    · rw [over_cons, over_nil]; exact q2

end
end Go.Proofs.Yticaicdopfpknaa.Vm
