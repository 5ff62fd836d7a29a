/- The engine, part D: slices: what is read, what is owned; append, literals, bytes and strings. -/
import Derived.Test.YtffkjjakceojfaaDoorEngC
import Derived.Laws.BytesArg
namespace Go.Proofs.YtffkjjakceojfaaDoor
open Go
set_option linter.unusedVariables false
set_option linter.unusedSimpArgs false

abbrev B8 (u : UInt8) : Value := .int .u8 (u.toNat : Int)
theorem one_B8 (l : List UInt8) : ∀ v ∈ l.map B8, v.oneCell' = true := fun v hv => by
  obtain ⟨u, _, rfl⟩ := List.mem_map.1 hv; rfl

/-! ### What a slice reads as -/
/-- The n elements (size cells each) of a slice that begins at a are the cells xs; they lie in a block of A. -/
def RdRow (w : World) (A : Nat → Prop) (size : Nat) (a : Option Addr) (n : Nat) (xs : List Value) : Prop :=
  xs.length = n * size ∧ n ≤ maxLen ∧ (0 < n → ∃ g o, a = some ⟨g, o, none⟩ ∧ A g ∧ g < w.heap.size ∧ w.rangeAt g o xs)

theorem RdRow.mv {w w' : World} {A A' : Nat → Prop} {size n : Nat} {a : Option Addr} {xs : List Value} (h : RdRow w A size a n xs)
    (hk : ∀ k, k < w.heap.size → A k → w'.heap[k]? = w.heap[k]? ∧ A' k) : RdRow w' A' size a n xs := by
  refine ⟨h.1, h.2.1, fun hn => ?_⟩
  obtain ⟨g, o, ha, hA, hl, hr⟩ := h.2.2 hn
  obtain ⟨e, hA'⟩ := hk g hl hA
  refine ⟨g, o, ha, hA', ?_, fun j v hj => ?_⟩
  · rw [Array.getElem?_eq_getElem hl] at e
    exact (Array.getElem?_eq_some_iff.1 e).1
  · rw [World.cell?_of_block (w := w) (a := ⟨g, o + j, none⟩) e]; exact hr j v hj
theorem RdRow.nil {w : World} {A : Nat → Prop} {size : Nat} {a : Option Addr} : RdRow w A size a 0 [] := ⟨by simp, by simp [maxLen], fun h => absurd h (by omega)⟩
theorem RdRow.first {P : Program} {w : World} {A : Nat → Prop} {size n c : Nat} {a : Option Addr} {xs : List Value} (h : RdRow w A size a n xs) :
    (Builtin.firstCells size n (.slice a n c)).run P w = .ok xs.toArray w := by
  cases a with
  | none =>
    have hn : n = 0 := by
      rcases Nat.eq_zero_or_pos n with h0 | h0
      · exact h0
      · obtain ⟨_, _, ha, _⟩ := h.2.2 h0; cases ha
    subst hn
    have : xs = [] := List.eq_nil_of_length_eq_zero (by simpa using h.1)
    subst this
    simp [Builtin.firstCells]
  | some ad =>
    refine run_firstCells_some w size n ad n c xs h.1 fun j v hj => ?_
    rcases Nat.eq_zero_or_pos n with h0 | h0
    · subst h0
      have : xs = [] := List.eq_nil_of_length_eq_zero (by simpa using h.1)
      subst this; simp at hj
    · obtain ⟨g, o, ha, _, _, hr⟩ := h.2.2 h0
      injection ha with ha; subst ha
      rw [Addr.add_mid]; exact hr j v hj
/-- The cells of one element. -/
theorem RdRow.elem {w : World} {A : Nat → Prop} {size n : Nat} {a : Option Addr} {xs : List Value} (h : RdRow w A size a n xs) {i : Nat} (hi : i < n) :
    ∃ g o, a = some ⟨g, o, none⟩ ∧ A g ∧ g < w.heap.size ∧ w.rangeAt g (o + i * size) ((xs.drop (i * size)).take size) := by
  obtain ⟨g, o, ha, hA, hl, hr⟩ := h.2.2 (by omega)
  refine ⟨g, o, ha, hA, hl, fun j v hj => ?_⟩
  rw [List.getElem?_take] at hj
  split at hj
  · rw [List.getElem?_drop] at hj
    rw [Nat.add_assoc]; exact hr _ v hj
  · cases hj
/-- A cut of it. -/
theorem RdRow.cut {w : World} {A : Nat → Prop} {size n c l h : Nat} {a : Option Addr} {xs : List Value} (hr : RdRow w A size a n xs) (h1 : l ≤ h) (h2 : h ≤ n) (h3 : n ≤ c) :
    RdRow w A size (if c = l then a else a.map (·.add (l * size))) (h - l) ((xs.drop (l * size)).take ((h - l) * size)) := by
  have hle : h * size ≤ xs.length := by rw [hr.1]; exact Nat.mul_le_mul_right _ h2
  have hle' : l * size ≤ h * size := Nat.mul_le_mul_right _ h1
  have hsub : (h - l) * size = h * size - l * size := Nat.sub_mul _ _ _
  refine ⟨by rw [List.length_take, List.length_drop]; omega, by have := hr.2.1; omega, fun hn => ?_⟩
  obtain ⟨g, o, rfl, hA, hl, hx⟩ := hr.2.2 (by omega)
  rw [if_neg (by omega)]
  refine ⟨g, o + l * size, by simp [Addr.add_mid], hA, hl, fun j v hj => ?_⟩
  rw [List.getElem?_take] at hj
  split at hj
  · rw [List.getElem?_drop] at hj
    rw [Nat.add_assoc]; exact hx _ v hj
  · cases hj

/-! ### What is owned -/
def rowR (e size : Nat) (a : Option Addr) (n c : Nat) (xs : List Value) : Res where
  on w F := xs.length = n * size ∧ n ≤ c ∧ c ≤ maxLen ∧ ((a = none ∧ c = 0 ∧ ∀ k, ¬ F k) ∨
    ∃ g o cs fz, a = some ⟨g, o, none⟩ ∧ (∀ k, F k ↔ k = g) ∧ w.heap[g]? = some (.cells cs e fz) ∧ okFz cs.size fz ∧ o + c * size ≤ cs.size ∧ (cs.toList.drop o).take (n * size) = xs)
  loc := fun ⟨h1, h2, h3, h⟩ hk => ⟨h1, h2, h3, h.imp id fun ⟨g, o, cs, fz, ha, hF, hg, r⟩ => ⟨g, o, cs, fz, ha, hF, (hk g ((hF g).2 rfl)).trans hg, r⟩⟩
  lt := fun ⟨_, _, _, h⟩ k hk => by
    rcases h with ⟨_, _, h⟩ | ⟨g, o, cs, fz, _, hF, hg, _⟩
    · exact absurd hk (h k)
    · rw [(hF k).1 hk]; exact (Array.getElem?_eq_some_iff.1 hg).1

theorem rowR.rd {e size n c : Nat} {a : Option Addr} {xs : List Value} {w : World} {F : Nat → Prop} (h : (rowR e size a n c xs).on w F) : RdRow w F size a n xs := by
  obtain ⟨h1, h2, h3, h⟩ := h
  refine ⟨h1, Nat.le_trans h2 h3, fun hn => ?_⟩
  rcases h with ⟨_, h, _⟩ | ⟨g, o, cs, fz, ha, hF, hg, _, hl, hx⟩
  · omega
  · refine ⟨g, o, ha, (hF g).2 rfl, (Array.getElem?_eq_some_iff.1 hg).1, fun j v hj => ?_⟩
    rw [← hx, List.getElem?_take] at hj
    split at hj
    · simp [World.cell?, hg]
      rw [List.getElem?_drop] at hj
      simpa using hj
    · cases hj
theorem rowR.nil {e size : Nat} {w : World} : (rowR e size none 0 0 []).on w (fun _ => False) := ⟨by simp, Nat.le_refl _, by simp [maxLen], .inl ⟨rfl, rfl, fun _ h => h⟩⟩
theorem stars_row_nil {e size : Nat} {L : List Res} {w : World} {F : Nat → Prop} (h : stars L w F) : stars (rowR e size none 0 0 [] :: L) w F :=
  ⟨_, F, rowR.nil, h, fun k => by simp, fun _ h => h.elim⟩
theorem rowR.of_blk {e size g o n c : Nat} {cs xs : List Value} {w : World} {F : Nat → Prop} (h : (blk g e cs).on w F) (hx : (cs.drop o).take (n * size) = xs) (hl : o + c * size ≤ cs.length) (hn : n ≤ c) (hc : c ≤ maxLen) :
    (rowR e size (some ⟨g, o, none⟩) n c xs).on w F := by
  obtain ⟨hF, fz, hg, hz⟩ := h
  have : n * size ≤ c * size := Nat.mul_le_mul_right _ hn
  exact ⟨by rw [← hx, List.length_take, List.length_drop]; omega, hn, hc, .inr ⟨g, o, cs.toArray, fz, rfl, hF, hg, by simpa using hz, by simpa using hl, by simpa using hx⟩⟩
theorem rowR.cut {e size n c l h : Nat} {a : Option Addr} {xs : List Value} {w : World} {F : Nat → Prop} (hr : (rowR e size a n c xs).on w F) (h1 : l ≤ h) (h2 : h ≤ n) :
    (rowR e size (if c = l then a else a.map (·.add (l * size))) (h - l) (c - l) ((xs.drop (l * size)).take ((h - l) * size))).on w F := by
  obtain ⟨e1, e2, e3, hh⟩ := hr
  have hle : h * size ≤ xs.length := by rw [e1]; exact Nat.mul_le_mul_right _ h2
  have hle' : l * size ≤ h * size := Nat.mul_le_mul_right _ h1
  have hsub : (h - l) * size = h * size - l * size := Nat.sub_mul _ _ _
  refine ⟨by rw [List.length_take, List.length_drop]; omega, by omega, by omega, ?_⟩
  rcases hh with ⟨rfl, rfl, hF⟩ | ⟨g, o, cs, fz, rfl, hF, hg, hz, hl, hx⟩
  · have : l = 0 := by omega
    subst this
    exact .inl ⟨by simp, rfl, hF⟩
  · right
    by_cases hc : c = l
    · rw [if_pos hc]
      have : h = l := by omega
      subst this
      subst hc
      exact ⟨g, o, cs, fz, rfl, hF, hg, hz, by simp; omega, by simp⟩
    · rw [if_neg hc]
      have hcl : (c - l) * size = c * size - l * size := Nat.sub_mul _ _ _
      have hcl' : l * size ≤ c * size := Nat.mul_le_mul_right _ (by omega)
      refine ⟨g, o + l * size, cs, fz, by simp [Addr.add_mid], hF, hg, hz, by omega, ?_⟩
      rw [← hx, List.drop_take, List.drop_drop, List.take_take]
      congr 1
      have : n * size = xs.length := e1.symm
      omega

section rows
variable {P : Program} {w0 : World} {F0 : Nat → Prop} {L : List Res} {Q : Exit → Act → World → Prop} {n : Nat} {env : Env} {ops : Array Oper} {rest : List Oper}
variable {d : Option Tmp} {ty : TypeId} {pos : String} {af : Array Edge} {gd : Option (Nat × Bool)}

theorem St.row {w : World} {e size a m c xs} {L' : List Res} (hs : St w0 F0 L w) (hp : Pick L (rowR e size a m c xs) L') : RdRow w (fun _ => True) size a m xs := by
  obtain ⟨F, hF, _⟩ := hs
  obtain ⟨F1, h1, _⟩ := stars_pick hp hF
  exact (rowR.rd h1).mv fun k _ _ => ⟨rfl, trivial⟩
theorem St.rdOld {w : World} {size a m xs} (hs : St w0 F0 L w) (h : RdRow w0 (fun k => ¬ F0 k) size a m xs) : RdRow w (fun _ => True) size a m xs := by
  obtain ⟨F, _, hst⟩ := hs
  exact h.mv fun k hk hn => ⟨(hst.old hk hn).1, trivial⟩

/-- A new block, and nothing else (draws aside). -/
theorem St.newW {w w' : World} {T : TypeId} {cs : Array Value} {fz : Nat × Nat} (hs : St w0 F0 L w) (hh : w'.heap = w.heap.push (.cells cs T fz)) (ho : w'.os = w.os) (ht : w'.tape = w.tape) (hu : w'.output = w.output) :
    ∃ F, stars L w' F ∧ Stp w0 F0 w' F ∧ (∀ k, F k → k < w.heap.size) ∧ Stp w0 F0 w' (fun k => k = w.heap.size ∨ F k) := by
  obtain ⟨F, hF, hst⟩ := hs
  have hold : ∀ k, k < w.heap.size → w'.heap[k]? = w.heap[k]? := fun k hk => by rw [hh, Array.getElem?_push, if_neg (by omega)]
  have hsz : w.heap.size ≤ w'.heap.size := by rw [hh]; simp
  have hst' : Stp w0 F0 w' F := ⟨ho.trans hst.os, ht.trans hst.tape, hu.trans hst.output, Nat.le_trans hst.size hsz, fun k hk hn => (hold k (Nat.lt_of_lt_of_le hk hst.size)).trans (hst.block k hk hn), hst.own⟩
  refine ⟨F, stars_loc hF fun k hk => hold k (stars_lt hF k hk), hst', stars_lt hF, { hst' with own := ?_ }⟩
  rintro k (rfl | hk)
  · exact .inr hst.size
  · exact hst.own k hk

theorem St.newRow {w w' : World} {e size m c : Nat} {cs : Array Value} {fz : Nat × Nat} {xs : List Value} (hs : St w0 F0 L w) (hh : w'.heap = w.heap.push (.cells cs e fz)) (ho : w'.os = w.os) (ht : w'.tape = w.tape) (hu : w'.output = w.output)
    (hz : okFz cs.size fz) (hx : cs.toList.take (m * size) = xs) (hm : m ≤ c) (hc : c ≤ maxLen) (hl : c * size ≤ cs.size) : St w0 F0 (rowR e size (some ⟨w.heap.size, 0, none⟩) m c xs :: L) w' := by
  obtain ⟨F, hF, _, hlt, hst⟩ := hs.newW hh ho ht hu
  have hle : m * size ≤ c * size := Nat.mul_le_mul_right _ hm
  refine ⟨_, ⟨fun k => k = w.heap.size, F, ⟨by rw [← hx, List.length_take]; simp; omega, hm, hc, .inr ⟨w.heap.size, 0, cs, fz, rfl, fun _ => Iff.rfl, by rw [hh]; simp, hz, by omega, by simpa using hx⟩⟩, hF, fun k => Iff.rfl, ?_⟩, hst⟩
  rintro k rfl hk
  exact absurd (hlt _ hk) (Nat.lt_irrefl _)

/-- append onto what is owned. -/
theorem St.append {w : World} {e size bytes m c k c2 : Nat} {a a2 : Option Addr} {xs news : List Value} {L' : List Res} {t ty : TypeId} {i : TypeInfo} {z : Value} {A : Nat → Prop}
    (hs : St w0 F0 L w) (hp : Pick L (rowR e size a m c xs) L') (ht : P.underlying t = some (.slice e)) (hi : P.info? e = some i) (hz : i.zero = some z) (hsize : i.size = size) (hby : i.bytes = bytes) (hzs : z.cells.size = size) (hsz : 0 < size)
    (hr : RdRow w A size a2 k news) (h1 : ∀ u ∈ news, u.oneCell' = true) (h63 : m + k ≤ maxLen) (hb : (m + k) * bytes ≤ 140737488355328) :
    ∃ a' c' w', (Builtin.append_ #[t, t] ty #[.slice a m c, .slice a2 k c2]).run P w = .ok (.slice a' (m + k) c') w' ∧ St w0 F0 (rowR e size a' (m + k) c' (xs ++ news) :: L') w' := by
  subst hsize
  subst hby
  have hsmall : m + k ≤ 9223372036854775807 := by simp only [maxLen] at h63; omega
  obtain ⟨F, hF, hst⟩ := hs
  obtain ⟨F1, F2, hrow, h2, hE, hd⟩ := hp.stars hF
  have hown := hrow
  obtain ⟨hxl, hmc, hcm, hcase⟩ := hrow
  have hs' : St w0 F0 L' w := ⟨F2, h2, hst.weak fun k hk => (hE k).2 (.inr hk)⟩
  have hlen : (xs ++ news).length = (m + k) * i.size := by rw [List.length_append, hxl, hr.1, Nat.add_mul]
  by_cases hroom : m + k ≤ c
  · rcases hcase with ⟨rfl, rfl, hF1⟩ | ⟨g, o, cs, fz, rfl, hF1, hg, hfz, hl, hx⟩
    · have hm0 : m = 0 := by omega
      have hk0 : k = 0 := by omega
      subst hm0; subst hk0
      have hx0 : xs = [] := List.eq_nil_of_length_eq_zero (by simpa using hxl)
      have hn0 : news = [] := List.eq_nil_of_length_eq_zero (by simpa using hr.1)
      subst hx0; subst hn0
      refine ⟨none, 0, w, ?_, ?_⟩
      · have hf := hr.first (P := P) (c := c2)
        simp [Builtin.append_, run_underlying ht, sizeOf, typeInfo, hi, Builtin.lenOf, hf]
      · exact ⟨F2, stars_row_nil h2, hst.weak fun k hk => (hE k).2 (.inr hk)⟩
    · have hfit : m * i.size + news.length ≤ c * i.size := by rw [hr.1, ← Nat.add_mul]; exact Nat.mul_le_mul_right _ hroom
      have hst' := run_storeCells_blk (P := P) (T := e) (fz := fz) g (o + m * i.size) news 0 cs.toList w (by simpa using hg) (by simpa using hfz) (by simp; omega) h1
      refine ⟨some ⟨g, o, none⟩, c, { w with heap := w.heap.setIfInBounds g (.cells (updL cs.toList (o + m * i.size) news).toArray e fz) }, ?_, F, ⟨F1, F2, ⟨hlen, hroom, hcm, .inr ⟨g, o, (updL cs.toList (o + m * i.size) news).toArray, fz, rfl, hF1, ?_, ?_, ?_, ?_⟩⟩, ?_, hE, hd⟩, ?_⟩
      · have hf := hr.first (P := P) (c := c2)
        simp only [Nat.add_zero] at hst'
        simp [Builtin.append_, run_underlying ht, sizeOf, typeInfo, hi, Builtin.lenOf, hroom, hf, Addr.add_mid, hst']
      · have hlt : g < w.heap.size := (Array.getElem?_eq_some_iff.1 hg).1
        simp [hlt]
      · rw [List.size_toArray, updL_length (by simp; omega)]; simpa using hfz
      · rw [List.size_toArray, updL_length (by simp; omega)]; simpa using hl
      · rw [← hlen]
        simp only [updL]
        have e1 : (cs.toList.take (o + m * i.size)).drop o = xs := by
          rw [List.drop_take, ← hx]; congr 1; omega
        rw [List.drop_append_of_le_length (by simp; omega), e1, ← List.append_assoc]
        exact List.take_left
      · refine stars_loc h2 fun j hj => ?_
        have : ¬ g = j := fun e => hd j ((hF1 j).2 e.symm) hj
        simp [Array.getElem?_setIfInBounds, this]
      · refine ⟨hst.os, hst.tape, hst.output, by simpa using hst.size, fun j hj hn => ?_, hst.own⟩
        rw [← hst.block j hj hn]
        have : ¬ g = j := fun e => (hst.old hj hn).2 ((hE j).2 (.inl ((hF1 j).2 e.symm)))
        simp [Array.getElem?_setIfInBounds, this]
  · have hge := grownCap_ge w (m + k) c e
    have hcl : grownCap w (m + k) c e ≤ maxLen := grownCap_le_maxLen w (m + k) c e h63
    have hfo := (rowR.rd hown).first (P := P) (c := c)
    have hfn := hr.first (P := P) (c := c2)
    have hrun : (Builtin.append_ #[t, t] ty #[.slice a m c, .slice a2 k c2]).run P w = .ok (.slice (some ⟨w.heap.size, 0, none⟩) (m + k) (grownCap w (m + k) c e))
        (w.drew.alloc (.cells (xs.toArray ++ news.toArray ++ Builtin.zeroCells z.cells (grownCap w (m + k) c e - (m + k))) e)) := by
      have h48' : ¬ (281474976710656 < Builtin.nextslicecap (m + k) c * i.bytes) := by
        have := growslice_fits (need := m + k) (old := c) (by omega) hb; omega
      have h63' : ¬ (9223372036854775807 < ((m : Int) + (k : Int))) := by omega
      have hfo' : (Builtin.firstCells i.size m (.slice a m c)).run P w.drew = .ok xs.toArray w.drew := ((rowR.rd hown).mv (w' := w.drew) (A' := fun _ => True) fun _ _ _ => ⟨rfl, trivial⟩).first
      have hfn' : (Builtin.firstCells i.size k (.slice a2 k c2)).run P w.drew = .ok news.toArray w.drew := (hr.mv (w' := w.drew) (A' := fun _ => True) fun _ _ _ => ⟨rfl, trivial⟩).first
      simp [Builtin.append_, run_underlying ht, sizeOf, typeInfo, zeroValue, hi, hz, Builtin.lenOf, hroom, h63', h48', Question.forced, hfo', hfn', Go.newRow, grownCap]
      congr 2
      apply Array.ext'
      simp
    refine ⟨_, _, _, hrun, hs'.newRow (w' := w.drew.alloc _) (fz := (0, 0)) rfl rfl rfl rfl (fun j _ h => by simp at h) ?_ hge hcl ?_⟩
    · simp only [Array.toList_append, List.append_assoc]
      rw [← List.append_assoc, ← hlen]
      exact List.take_left
    · simp only [Array.size_append, List.size_toArray, size_zeroCells, hzs, hxl, hr.1, ← Nat.add_mul]
      rw [show m + k + (grownCap w (m + k) c e - (m + k)) = grownCap w (m + k) c e by omega]
      exact Nat.le_refl _

theorem gl_append0 {x y : Operand} {t e size bytes m c k c2 : Nat} {a a2 : Option Addr} {xs news : List Value} {L' : List Res} {o : Option Tmp}
    (hw : Wt ops n env ⟨o, .call ⟨.builtin .append, #[x, y], #[t, t]⟩, ty, pos, af, gd⟩ true) (hx : ev n env x = .slice a m c) (hy : ev n env y = .slice a2 k c2) (hp : Pick L (rowR e size a m c xs) L')
    (ht : ElemT P t e size bytes) (hr : ∀ w, St w0 F0 L w → RdRow w (fun _ => True) size a2 k news) (h1 : ∀ u ∈ news, u.oneCell' = true) (h63 : m + k ≤ maxLen) (hb : (m + k) * bytes ≤ 140737488355328)
    (K : ∀ a' c', Gl P w0 F0 (rowR e size a' (m + k) c' (xs ++ news) :: L') ops Q rest n (pu o (.slice a' (m + k) c') env)) :
    Gl P w0 F0 L ops Q (⟨o, .call ⟨.builtin .append, #[x, y], #[t, t]⟩, ty, pos, af, gd⟩ :: rest) n env := by
  obtain ⟨hsl, ⟨i, z, hi, hz, hsz, hby, hzs⟩, hpos⟩ := ht
  refine gl_effx (α := Option Addr × Nat) (L' := fun p => rowR e size p.1 (m + k) p.2 (xs ++ news) :: L') (v := fun p => .slice p.1 (m + k) p.2) hw (fun w hs => ?_) (fun p => K p.1 p.2)
  obtain ⟨a', c', w', hrun, hs'⟩ := hs.append (P := P) (ty := ty) (c2 := c2) hp hsl hi hz hsz hby hzs hpos (hr w hs) h1 h63 hb
  refine ⟨(a', c'), w', ?_, hs'⟩
  simp [execOp, resolve, invoke, builtin, hx, hy, hrun]
theorem gl_append {x y : Operand} {t e size bytes m c k c2 : Nat} {a a2 : Option Addr} {xs news : List Value} {L' : List Res} {o : Tmp}
    (hw : Wt ops n env ⟨some o, .call ⟨.builtin .append, #[x, y], #[t, t]⟩, ty, pos, af, gd⟩ true) (hx : ev n env x = .slice a m c) (hy : ev n env y = .slice a2 k c2) (hp : Pick L (rowR e size a m c xs) L')
    (ht : ElemT P t e size bytes) (hr : ∀ w, St w0 F0 L w → RdRow w (fun _ => True) size a2 k news) (h1 : ∀ u ∈ news, u.oneCell' = true) (h63 : m + k ≤ maxLen) (hb : (m + k) * bytes ≤ 140737488355328)
    (K : ∀ a' c', Gl P w0 F0 (rowR e size a' (m + k) c' (xs ++ news) :: L') ops Q rest n ((o, .slice a' (m + k) c') :: env)) :
    Gl P w0 F0 L ops Q (⟨some o, .call ⟨.builtin .append, #[x, y], #[t, t]⟩, ty, pos, af, gd⟩ :: rest) n env := gl_append0 hw hx hy hp ht hr h1 h63 hb K
end rows
end Go.Proofs.YtffkjjakceojfaaDoor
