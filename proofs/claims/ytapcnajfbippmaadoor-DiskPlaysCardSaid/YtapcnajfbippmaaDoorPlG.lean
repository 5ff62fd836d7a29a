/- Plain words on disks, part 4: the document's disk, and that both answer alike. -/
import Derived.Test.YtapcnajfbippmaaDoorPlF
import Derived.Lib.SlKeysI
namespace Go.Proofs.YtapcnajfbippmaaDoor
open Go
set_option linter.unusedVariables false
set_option linter.unusedSimpArgs false
structure MS where
  n : Nat
  ss : Nat → Sec
  wr : Nat → Sec
  dt : Nat → Bool
  off : Bool
  left : Int
def MS.new (n : Nat) : MS := ⟨n, fun _ => sec0, fun _ => sec0, fun _ => false, false, -1⟩
def MS.beg (m : MS) : Nat × MS := if m.left = 0 ∨ m.off = true then (6, { m with off := true }) else (0, if 0 < m.left then { m with left := m.left - 1 } else m)
def MS.has (m : MS) (i : Int) : Bool := decide (0 ≤ i) && decide (i < m.n)
def MS.wrt (m : MS) (i : Int) (v : Sec) : Nat × MS := if m.has i then (if m.beg.1 = 0 then (0, { m.beg.2 with wr := updS m.beg.2.wr i.toNat v, dt := updB m.beg.2.dt i.toNat true }) else m.beg) else (1, m)
def MS.red (m : MS) (i : Int) : Nat × Sec := if m.has i then (if m.off then (6, sec0) else (0, if m.dt i.toNat then m.wr i.toNat else m.ss i.toNat)) else (1, sec0)
def synS (m : MS) (e : Nat) (k i : Nat) : Sec := if e = 0 ∧ i < k ∧ m.dt i = true then m.wr i else m.ss i
def synD (m : MS) (e : Nat) (k i : Nat) : Bool := if e = 0 ∧ i < k then false else m.dt i
def MS.syn (m : MS) : Nat × MS := (m.beg.1, { m.beg.2 with ss := synS m.beg.2 m.beg.1 m.beg.2.n, dt := synD m.beg.2 m.beg.1 m.beg.2.n })
def MS.arm (m : MS) (n : Int) : MS := { m with left := if n < 0 then -1 else n }
def unsN (f : Nat → Bool) (k : Nat) : List Int := ((List.range k).filter f).map fun (i : Nat) => (i : Int)
def MS.uns (m : MS) : List Int := unsN m.dt m.n
def keepM (us : List Int) (kb : List Bool) (wr ss : Nat → Sec) : Nat → Nat → Sec
  | 0 => ss
  | j + 1 => if kb.getD j false = true then updS (keepM us kb wr ss j) (us.getD j 0).toNat (wr (us.getD j 0).toNat) else keepM us kb wr ss j
def clrM (us : List Int) (dt : Nat → Bool) : Nat → Nat → Bool
  | 0 => dt
  | j + 1 => updB (clrM us dt j) (us.getD j 0).toNat false
def MS.cra (m : MS) (kb : List Bool) : MS := { m with ss := keepM m.uns kb m.wr m.ss m.uns.length, dt := clrM m.uns m.dt m.uns.length, off := false, left := -1 }
structure MOk (m : MS) : Prop where
  n : m.n ≤ 4096
  rg : -1 ≤ m.left ∧ m.left ≤ 9223372036854775807
theorem beg_n (m : MS) : m.beg.2.n = m.n := by unfold MS.beg; split <;> (try split) <;> rfl
theorem beg_ss (m : MS) : m.beg.2.ss = m.ss := by unfold MS.beg; split <;> (try split) <;> rfl
theorem beg_wr (m : MS) : m.beg.2.wr = m.wr := by unfold MS.beg; split <;> (try split) <;> rfl
theorem beg_dt (m : MS) : m.beg.2.dt = m.dt := by unfold MS.beg; split <;> (try split) <;> rfl
theorem beg_ok {m : MS} (h : MOk m) : MOk m.beg.2 := by
  have := h.rg
  unfold MS.beg; split
  · exact ⟨h.n, h.rg⟩
  · simp only; split
    · exact ⟨h.n, by show -1 ≤ m.left - 1 ∧ m.left - 1 ≤ 9223372036854775807; omega⟩
    · exact h
theorem wrt_ok {m : MS} {i : Int} {v : Sec} (h : MOk m) : MOk (m.wrt i v).2 := by
  unfold MS.wrt; split
  · split
    · exact ⟨(beg_ok h).n, (beg_ok h).rg⟩
    · exact beg_ok h
  · exact h
theorem syn_ok {m : MS} (h : MOk m) : MOk m.syn.2 := ⟨(beg_ok h).n, (beg_ok h).rg⟩
theorem arm_okM {m : MS} {n : Int} (h : MOk m) (hn : n ≤ 9223372036854775807) : MOk (m.arm n) := ⟨h.n, by show -1 ≤ (if n < 0 then -1 else n) ∧ (if n < 0 then -1 else n) ≤ 9223372036854775807; split <;> omega⟩
theorem cra_ok {m : MS} {kb : List Bool} (h : MOk m) : MOk (m.cra kb) := ⟨h.n, by show (-1 : Int) ≤ -1 ∧ (-1 : Int) ≤ 9223372036854775807; decide⟩
/-- Both disks tell the same. -/
structure RelD (d : DS) (m : MS) : Prop where
  n : m.n = d.n
  ss : ∀ i, i < d.n → m.ss i = d.ss i
  dt : ∀ i, i < d.n → m.dt i = (lookW (i : Int) d.ws).isSome
  wr : ∀ i v, i < d.n → lookW (i : Int) d.ws = some v → m.wr i = v
  off : m.off = d.off
  left : d.off = false → m.left = if d.armed = true then d.left else -1
theorem rel_new (n : Nat) : RelD ⟨n, fun _ => sec0, [], false, false, 0⟩ (MS.new n) := ⟨rfl, fun _ _ => rfl, fun _ _ => rfl, fun _ _ _ h => (by cases h), rfl, fun _ => rfl⟩
theorem rel_has {d : DS} {m : MS} (h : RelD d m) (i : Int) : m.has i = d.has i := by simp [MS.has, DS.has, h.n]
theorem rel_beg {d : DS} {m : MS} (h : RelD d m) (hk : DOk d) : m.beg.1 = (if (oper d).off then 6 else 0) ∧ RelD (oper d) m.beg.2 := by
  have hn := oper_n d; have hs := oper_ss d; have hw := oper_ws d
  have base : ∀ m2 : MS, m2.n = m.n → m2.ss = m.ss → m2.wr = m.wr → m2.dt = m.dt → m2.off = (oper d).off → ((oper d).off = false → m2.left = if (oper d).armed = true then (oper d).left else -1) → RelD (oper d) m2 := fun m2 e1 e2 e3 e4 e5 e6 =>
    ⟨by rw [e1, hn, h.n], fun i hi => by rw [e2, hs]; exact h.ss i (by rwa [hn] at hi), fun i hi => by rw [e4, hw]; exact h.dt i (by rwa [hn] at hi), fun i v hi hv => by rw [e3]; rw [hw] at hv; exact h.wr i v (by rwa [hn] at hi) hv, e5, e6⟩
  cases ho : d.off with
  | true =>
    have eo := oper_no (d := d) (.inr ho)
    have hm : m.off = true := h.off.trans ho
    have eb : m.beg = (6, { m with off := true }) := by rw [MS.beg, if_pos (.inr hm)]
    rw [eb, eo]
    refine ⟨by rw [ho]; rfl, ?_⟩
    rw [eo] at base
    exact base _ rfl rfl rfl rfl ho.symm (fun h => by rw [ho] at h; cases h)
  | false =>
    have hl := h.left ho
    have hm : m.off = false := h.off.trans ho
    cases ha : d.armed with
    | false =>
      rw [ha] at hl
      have hl : m.left = -1 := by simpa using hl
      have eo := oper_no (d := d) (.inl ha)
      have eb : m.beg = (0, m) := by rw [MS.beg, if_neg (by rw [hm, hl]; simp), if_neg (by rw [hl]; decide)]
      rw [eb, eo]
      exact ⟨by rw [ho]; rfl, h⟩
    | true =>
      rw [ha] at hl
      have hl : m.left = d.left := by simpa using hl
      have h0 := hk.lf ha ho
      obtain ⟨e1, e2, e3⟩ := oper_yes ha ho
      by_cases hz : d.left = 0
      · have eb : m.beg = (6, { m with off := true }) := by rw [MS.beg, if_pos (.inl (by rw [hl, hz]))]
        rw [eb]
        have eo : (oper d).off = true := by rw [e1]; exact decide_eq_true hz
        exact ⟨by rw [eo]; rfl, base _ rfl rfl rfl rfl eo.symm (fun h => by rw [eo] at h; cases h)⟩
      · have eb : m.beg = (0, { m with left := m.left - 1 }) := by rw [MS.beg, if_neg (by rw [hm, hl]; simp [hz]), if_pos (by rw [hl]; omega)]
        rw [eb]
        have eo : (oper d).off = false := by rw [e1]; exact decide_eq_false hz
        exact ⟨by rw [eo]; rfl, base _ rfl rfl rfl rfl (by show m.off = _; rw [hm, eo]) (fun _ => by rw [e2, ha, if_pos rfl, e3]; show m.left - 1 = _; rw [hl])⟩
theorem rel_wr {d : DS} {m : MS} (h : RelD d m) (hk : DOk d) (i : Int) (v : Sec) : (m.wrt i v).1 = (d.wr i v).1 ∧ RelD (d.wr i v).2 (m.wrt i v).2 := by
  obtain ⟨hb, hr⟩ := rel_beg h hk
  unfold MS.wrt DS.wr
  rw [rel_has h]
  cases hi : d.has i with
  | false => exact ⟨rfl, h⟩
  | true =>
    obtain ⟨h0, h1⟩ := has_iff.1 hi
    simp only [if_true]
    cases ho : (oper d).off with
    | true =>
      rw [ho] at hb
      have hb : m.beg.1 = 6 := hb
      rw [if_neg (by rw [hb]; decide)]
      exact ⟨hb, hr⟩
    | false =>
      rw [ho] at hb
      have hb : m.beg.1 = 0 := hb
      rw [if_pos hb]
      have hc : ((i.toNat : Nat) : Int) = i := Int.toNat_of_nonneg h0
      refine ⟨rfl, ⟨hr.n, hr.ss, fun j hj => ?_, fun j x hj hx => ?_, hr.off, hr.left⟩⟩
      · show updB _ _ _ j = (lookW (j : Int) (putW i v (oper d).ws)).isSome
        rw [lookW_put, updB]
        by_cases e : j = i.toNat
        · rw [if_pos e, if_pos (by rw [e, hc])]; rfl
        · rw [if_neg e, if_neg (by omega)]; exact hr.dt j hj
      · show updS _ _ _ j = x
        replace hx : lookW (j : Int) (putW i v (oper d).ws) = some x := hx
        rw [lookW_put] at hx
        rw [updS]
        by_cases e : j = i.toNat
        · rw [if_pos (by rw [e, hc])] at hx; rw [if_pos e]; exact Option.some.inj hx
        · rw [if_neg (by omega)] at hx; rw [if_neg e]; exact hr.wr j x hj hx
theorem rel_rd {d : DS} {m : MS} (h : RelD d m) (i : Int) : m.red i = d.rd i := by
  unfold MS.red DS.rd
  rw [rel_has h, h.off]
  cases hi : d.has i with
  | false => rfl
  | true =>
    obtain ⟨h0, h1⟩ := has_iff.1 hi
    have hn : i.toNat < d.n := by omega
    simp only [if_true]
    cases d.off with
    | true => rfl
    | false =>
      simp only [Bool.false_eq_true, if_false]
      rw [h.dt _ hn, DS.at]
      cases hl : lookW ((i.toNat : Nat) : Int) d.ws with
      | none => simp [h.ss _ hn]
      | some v => simp [h.wr _ _ hn hl]
theorem rel_sync {d : DS} {m : MS} (h : RelD d m) (hk : DOk d) : m.syn.1 = (if (oper d).off then 6 else 0) ∧ RelD d.syncd m.syn.2 := by
  obtain ⟨hb, hr⟩ := rel_beg h hk
  refine ⟨hb, ?_⟩
  unfold MS.syn DS.syncd
  cases ho : (oper d).off with
  | true =>
    rw [ho] at hb
    have hb : m.beg.1 = 6 := hb
    have e1 : synS m.beg.2 m.beg.1 m.beg.2.n = m.beg.2.ss := by funext i; rw [synS, if_neg (by rw [hb]; simp)]
    have e2 : synD m.beg.2 m.beg.1 m.beg.2.n = m.beg.2.dt := by funext i; rw [synD, if_neg (by rw [hb]; simp)]
    rw [e1, e2]
    exact hr
  | false =>
    rw [ho] at hb
    have hb : m.beg.1 = 0 := hb
    refine ⟨hr.n, fun i hi => ?_, fun i hi => ?_, fun i v _ hv => (by cases hv), hr.off, hr.left⟩
    · show synS _ _ _ i = (oper d).at i
      have hi : i < (oper d).n := hi
      rw [synS, hr.n, DS.at, hr.dt i hi]
      cases hl : lookW (i : Int) (oper d).ws with
      | none => simp [hr.ss i hi]
      | some v => simp [hb, hi, hr.wr i v hi hl]
    · show synD _ _ _ i = _
      have hi : i < (oper d).n := hi
      rw [synD, hr.n, if_pos ⟨hb, hi⟩]; rfl
theorem rel_arm {d : DS} {m : MS} (h : RelD d m) (n : Int) : RelD { d with armed := decide (0 ≤ n), left := n } (m.arm n) :=
  ⟨h.n, h.ss, h.dt, h.wr, h.off, fun _ => by
    show (if n < 0 then -1 else n) = if decide (0 ≤ n) = true then n else -1
    by_cases hn : n < 0
    · rw [if_pos hn, if_neg (by simp; omega)]
    · rw [if_neg hn, if_pos (by simp; omega)]⟩
theorem arm_okD {d : DS} {n : Int} (h : DOk d) (hn : -9223372036854775808 ≤ n ∧ n ≤ 9223372036854775807) : DOk { d with armed := decide (0 ≤ n), left := n } :=
  ⟨h.n, h.nd, h.ks, fun h1 _ => by simpa using h1, hn⟩
theorem mem_unsN {f : Nat → Bool} {k : Nat} {x : Int} : x ∈ unsN f k ↔ ∃ i : Nat, i < k ∧ f i = true ∧ (i : Int) = x := by
  simp only [unsN, List.mem_map, List.mem_filter, List.mem_range, and_assoc]
theorem isSome_mem {i : Int} {ws : List (Int × Sec)} : (lookW i ws).isSome = true ↔ i ∈ keysW ws := by
  by_cases h : i ∈ keysW ws
  · obtain ⟨v, hv, _⟩ := lookW_some h; simp [h, hv]
  · simp [h, lookW_none h]
theorem rel_uns {d : DS} {m : MS} (h : RelD d m) (hk : DOk d) : sortZ (keysW d.ws) = m.uns := by
  have hs : (unsN m.dt m.n).Pairwise (fun a b => decide (a ≤ b) = true) := by
    unfold unsN
    rw [List.pairwise_map]
    exact (List.pairwise_lt_range.sublist List.filter_sublist).imp fun h => by simp; omega
  have hnd : (unsN m.dt m.n).Nodup := by
    unfold unsN List.Nodup
    rw [List.pairwise_map]
    exact (List.pairwise_lt_range.sublist List.filter_sublist).imp fun h e => by omega
  have hp : (keysW d.ws).Perm (unsN m.dt m.n) := by
    refine (List.perm_ext_iff_of_nodup hk.nd hnd).2 fun x => ?_
    rw [mem_unsN]
    refine ⟨fun hx => ?_, fun ⟨i, hi, hd, e⟩ => ?_⟩
    · obtain ⟨h0, h1⟩ := hk.ks x hx
      have hc : ((x.toNat : Nat) : Int) = x := Int.toNat_of_nonneg h0
      have hl : x.toNat < d.n := by omega
      refine ⟨x.toNat, by rw [h.n]; exact hl, ?_, hc⟩
      rw [h.dt _ hl, hc]; exact isSome_mem.2 hx
    · subst e
      rw [h.n] at hi
      rw [h.dt i hi] at hd
      exact isSome_mem.1 hd
  show sortZ (keysW d.ws) = unsN m.dt m.n
  rw [sortZ, mergeSort_of_perm_i hp]
  exact List.mergeSort_of_pairwise hs
theorem clrM_mem {us : List Int} {dt : Nat → Bool} (hu : ∀ x ∈ us, 0 ≤ x) : ∀ (j : Nat), j ≤ us.length → ∀ i : Nat, clrM us dt j i = if (i : Int) ∈ us.take j then false else dt i
  | 0, _, i => by simp [clrM]
  | j + 1, hj, i => by
    have hl : us[j]? = some us[j] := List.getElem?_eq_getElem (by omega)
    have eg : us.getD j 0 = us[j] := by simp [List.getD, hl]
    have h0 := hu _ (List.getElem_mem (show j < us.length by omega))
    have et : us.take (j + 1) = us.take j ++ [us[j]] := by rw [List.take_add_one, hl]; rfl
    rw [clrM, updB, eg, clrM_mem hu j (by omega) i, et]
    by_cases e : i = us[j].toNat
    · rw [if_pos e, if_pos (List.mem_append.2 (.inr (List.mem_singleton.2 (by omega))))]
    · rw [if_neg e]
      have hne : (i : Int) ≠ us[j] := by omega
      have hm : (i : Int) ∈ us.take j ++ [us[j]] ↔ (i : Int) ∈ us.take j := by
        rw [List.mem_append, List.mem_singleton]; exact ⟨fun h => h.resolve_right hne, .inl⟩
      simp only [hm]
theorem rel_crash {d : DS} {m : MS} (h : RelD d m) (hk : DOk d) (kb : List Bool) : RelD (d.crash kb) (m.cra kb) := by
  have hu := rel_uns h hk
  have hus : ∀ x ∈ m.uns, x ∈ keysW d.ws := fun x hx => by rw [← hu] at hx; exact (sortZ_perm _).mem_iff.1 hx
  have hkeep : ∀ j, j ≤ m.uns.length → ∀ i, i < d.n → keepM m.uns kb m.wr m.ss j i = keepF m.uns kb d.ws d.ss j i := by
    intro j
    induction j with
    | zero => intro _ i hi; exact h.ss i hi
    | succ j ih =>
      intro hj i hi
      have ih' := ih (by omega)
      have hl : m.uns[j]? = some m.uns[j] := List.getElem?_eq_getElem (by omega)
      have eg : m.uns.getD j 0 = m.uns[j] := by simp [List.getD, hl]
      have hm := hus _ (List.getElem_mem (show j < m.uns.length by omega))
      obtain ⟨h0, h1⟩ := hk.ks _ hm
      obtain ⟨v, hv, _⟩ := lookW_some hm
      have hc : ((m.uns[j].toNat : Nat) : Int) = m.uns[j] := Int.toNat_of_nonneg h0
      have hw := h.wr m.uns[j].toNat v (by omega) (by rw [hc]; exact hv)
      rw [keepM, keepF]
      cases kb.getD j false with
      | true => rw [if_pos rfl, if_pos rfl, eg, hw, hv, updS, updS]; split
                · rfl
                · exact ih' i hi
      | false => rw [if_neg (by decide), if_neg (by decide)]; exact ih' i hi
  refine ⟨h.n, fun i hi => ?_, fun i hi => ?_, fun i v _ hv => (by cases hv), rfl, fun _ => rfl⟩
  · show keepM m.uns kb m.wr m.ss m.uns.length i = keepF (sortZ (keysW d.ws)) kb d.ws d.ss (sortZ (keysW d.ws)).length i
    rw [hu]; exact hkeep _ (Nat.le_refl _) i hi
  · show clrM m.uns m.dt m.uns.length i = false
    rw [clrM_mem (fun x hx => (hk.ks x (hus x hx)).1) _ (Nat.le_refl _), List.take_length]
    split
    · rfl
    · rename_i hn
      have hi : i < d.n := hi
      cases hd : m.dt i with
      | false => rfl
      | true => exact absurd (mem_unsN.2 ⟨i, by rw [h.n]; exact hi, hd, rfl⟩) hn
theorem synS_zero (m : MS) (e : Nat) : synS m e 0 = m.ss := by funext i; simp [synS]
theorem synD_zero (m : MS) (e : Nat) : synD m e 0 = m.dt := by funext i; simp [synD]
theorem synS_ne {m : MS} {e k : Nat} (h : ¬ e = 0) : synS m e k = m.ss := by funext i; simp [synS, h]
theorem synD_ne {m : MS} {e k : Nat} (h : ¬ e = 0) : synD m e k = m.dt := by funext i; simp [synD, h]
theorem synS_yes {m : MS} {e k : Nat} (h : e = 0) (hd : m.dt k = true) : updS (synS m e k) k (m.wr k) = synS m e (k + 1) := by
  funext i
  simp only [updS, synS]
  by_cases hi : i = k
  · subst hi; simp [h, hd]
  · rw [if_neg hi]
    have : (i < k) ↔ (i < k + 1) := by omega
    simp only [this]
theorem synD_yes {m : MS} {e k : Nat} (h : e = 0) : synD m e (k + 1) = updB (synD m e k) k false := by
  funext i
  simp only [updB, synD]
  by_cases hi : i = k
  · subst hi; simp [h]
  · rw [if_neg hi]
    have : (i < k) ↔ (i < k + 1) := by omega
    simp only [this]
theorem synS_no {m : MS} {e k : Nat} (hd : m.dt k = false) : synS m e (k + 1) = synS m e k := by
  funext i
  simp only [synS]
  by_cases hi : i = k
  · subst hi; simp [hd]
  · have : (i < k + 1) ↔ (i < k) := by omega
    simp only [this]
theorem synD_no {m : MS} {e k : Nat} (hd : m.dt k = false) : synD m e (k + 1) = synD m e k := by
  funext i
  simp only [synD]
  by_cases hi : i = k
  · subst hi; simp [hd]
  · have : (i < k + 1) ↔ (i < k) := by omega
    simp only [this]
theorem uns_key {m : MS} {j : Nat} (hj : j < m.uns.length) : 0 ≤ m.uns.getD j 0 ∧ m.uns.getD j 0 < m.n := by
  have e : m.uns.getD j 0 = m.uns[j] := by simp [List.getD, hj]
  obtain ⟨i, hi, _, e2⟩ := mem_unsN.1 (List.getElem_mem hj)
  rw [e, ← e2]; omega
theorem unsN_succ (f : Nat → Bool) (k : Nat) : unsN f (k + 1) = if f k = true then unsN f k ++ [(k : Int)] else unsN f k := by
  simp only [unsN, List.range_succ, List.filter_append, List.map_append, List.filter_cons, List.filter_nil]
  split <;> simp
theorem unsN_len (f : Nat → Bool) (k : Nat) : (unsN f k).length ≤ k := by
  rw [unsN, List.length_map]
  have := List.length_filter_le f (List.range k)
  simpa using this
end Go.Proofs.YtapcnajfbippmaaDoor
