/- Plain words on disks, part 3: the laws' scripts. -/
import Derived.Test.YtffkjjakceojfaaDoorPlD
import Derived.Test.YtffkjjakceojfaaDoorEngO
namespace Go.Proofs.YtffkjjakceojfaaDoor
open Go
set_option linter.unusedVariables false
set_option linter.unusedSimpArgs false
theorem oper_calm {d : DS} (h : d.armed = false) : oper d = d := oper_no (.inl h)
theorem wr_calm {d : DS} {i : Int} {v : Sec} (h : d.armed = false) (ho : d.off = false) (hi : d.has i = true) : d.wr i v = (0, d.write i v) := by
  rw [wr_on hi (by rw [oper_calm h]; exact ho), oper_calm h]
theorem syncd_calm {d : DS} (h : d.armed = false) (ho : d.off = false) : d.syncd = d.sync := by rw [DS.syncd, oper_calm h, if_neg (by rw [ho]; decide)]
theorem keepF_nil {ks : List Int} {ws : List (Int × Sec)} {ss : Nat → Sec} : ∀ j, keepF ks [] ws ss j = ss
  | 0 => rfl
  | j + 1 => by rw [keepF_no rfl, keepF_nil j]
theorem crash_idle {d : DS} {kb : List Bool} (h : d.ws = []) : d.crash kb = { d with off := false, armed := false } := by
  obtain ⟨n, ss, ws, off, armed, left⟩ := d
  simp only at h
  subst h
  simp [DS.crash, keysW, sortZ, keepF]
theorem rd_at {d : DS} {i : Int} (hi : d.has i = true) (ho : d.off = false) : d.rd i = (0, d.at i.toNat) := by simp [DS.rd, hi, ho]
/-! ### The chapter's example -/
def aD0 : DS := ⟨2, fun _ => sec0, [], false, false, 0⟩
def aD1 : DS := aD0.write 0 (secOf 1)
def aD2 : DS := aD1.sync
def aD3 : DS := aD2.write 1 (secOf 2)
def aD4 : DS := aD3.crash []
theorem aD0_ok : DOk aD0 := ⟨by decide, by simp [aD0, keysW], by simp [aD0, keysW], (fun h => by cases h), by decide⟩
theorem aD1_ok : DOk aD1 := write_ok aD0_ok (by decide) (by decide)
theorem aD2_ok : DOk aD2 := sync_ok aD1_ok
theorem aD3_ok : DOk aD3 := write_ok aD2_ok (by decide) (by decide)
theorem aD0_wr : aD0.wr 0 (secOf 1) = (0, aD1) := wr_calm rfl rfl rfl
theorem aD1_sync : aD1.syncd = aD2 := syncd_calm rfl rfl
theorem aD1_err : (if (oper aD1).off then 6 else 0) = 0 := by rw [oper_calm rfl]; rfl
theorem aD2_wr : aD2.wr 1 (secOf 2) = (0, aD3) := wr_calm rfl rfl rfl
theorem aD4_0 : aD4.rd 0 = (0, secOf 1) := by
  rw [rd_at rfl rfl]
  show (0, (lookW 0 []).getD (keepF _ [] _ _ _ 0)) = _
  rw [keepF_nil]; rfl
theorem aD4_1 : aD4.rd 1 = (0, sec0) := by
  rw [rd_at rfl rfl]
  show (0, (lookW 1 []).getD (keepF _ [] _ _ _ 1)) = _
  rw [keepF_nil]; rfl
/-! ### One sector, written over and over -/
def dL (ls : List UInt8) (k : Nat) : DS := ⟨3, fun _ => sec0, if k = 0 then [] else [(1, secOf (ls.getD (k - 1) 0))], false, false, 0⟩
theorem dL_ok (ls : List UInt8) (k : Nat) : DOk (dL ls k) := by
  refine ⟨show 3 ≤ 4096 by decide, ?_, ?_, (fun h => by cases h), show (-9223372036854775808 : Int) ≤ 0 ∧ (0 : Int) ≤ 9223372036854775807 by decide⟩
  · by_cases h : k = 0 <;> simp [dL, h, keysW]
  · intro i hi
    by_cases h : k = 0 <;> simp [dL, h, keysW] at hi ⊢
    subst hi; decide
theorem dL_zero (ls : List UInt8) : (⟨3, fun _ => sec0, [], false, false, 0⟩ : DS) = dL ls 0 := rfl
theorem dL_wr (ls : List UInt8) (k : Nat) : (dL ls k).wr 1 (secOf (ls.getD k 0)) = (0, dL ls (k + 1)) := by
  rw [wr_calm rfl rfl rfl]
  by_cases h : k = 0
  · subst h; rfl
  · simp [dL, h, DS.write, putW]
theorem dL_rd (ls : List UInt8) (k : Nat) : (dL ls (k + 1)).rd 1 = (0, secOf (ls.getD k 0)) := rfl
def dS (sy : Bool) (ls : List UInt8) : DS := if sy = true then (dL ls ls.length).syncd else dL ls ls.length
theorem dS_ok (sy : Bool) (ls : List UInt8) : DOk (dS sy ls) := by
  unfold dS; split
  · exact syncd_ok (dL_ok _ _)
  · exact dL_ok _ _
theorem dL_err (ls : List UInt8) (k : Nat) : (if (oper (dL ls k)).off then 6 else 0) = 0 := by rw [oper_calm rfl]; rfl
def lastS (sy : Bool) (kb : List Bool) (ls : List UInt8) : Sec := if sy = true ∨ kb.getD 0 false = true then secOf (ls.getD (ls.length - 1) 0) else sec0
theorem dS_rd (sy : Bool) {kb : List Bool} {ls : List UInt8} (h : 1 ≤ ls.length) : ((dS sy ls).crash kb).rd 1 = (0, lastS sy kb ls) := by
  cases sy with
  | true =>
    have e : (dS true ls).crash kb = (dL ls ls.length).sync := by
      rw [dS, if_pos rfl, syncd_calm rfl rfl, crash_idle rfl]; rfl
    rw [e, rd_at rfl rfl, lastS, if_pos (.inl rfl)]
    have h0 : ls.length ≠ 0 := by omega
    simp [DS.at, DS.sync, dL, lookW, h0]
  | false =>
    have h0 : ls.length ≠ 0 := by omega
    have e : dS false ls = dL ls ls.length := by rw [dS, if_neg (by decide)]
    have ew : (dL ls ls.length).ws = [(1, secOf (ls.getD (ls.length - 1) 0))] := by simp [dL, h0]
    have ek : sortZ (keysW [((1 : Int), secOf (ls.getD (ls.length - 1) 0))]) = [1] := by simp [keysW, sortZ]
    rw [e, rd_at rfl rfl]
    show (0, (lookW 1 []).getD ((dL ls ls.length).crash kb |>.ss 1)) = _
    simp only [DS.crash, ew, ek, List.length_singleton, lookW, Option.getD_none, lastS]
    cases hk : kb.getD 0 false with
    | true => rw [keepF_yes hk]; simp [updS, lookW]
    | false => rw [keepF_no hk]; simp [keepF, dL]
theorem dS_rd2 (sy : Bool) {kb kb2 : List Bool} {ls : List UInt8} (h : 1 ≤ ls.length) : (((dS sy ls).crash kb).crash kb2).rd 1 = (0, lastS sy kb ls) := by
  rw [crash_idle rfl, ← dS_rd sy h]; rfl
/-! ### Sectors, written one by one -/
def wsF (f : Nat → UInt8) (k : Nat) : List (Int × Sec) := (List.range k).map fun (i : Nat) => ((i : Int), secOf (f i))
theorem keys_wsF (f : Nat → UInt8) (k : Nat) : keysW (wsF f k) = (List.range k).map fun (i : Nat) => (i : Int) := by simp [keysW, wsF, Function.comp_def]
theorem putW_new {i : Int} {v : Sec} : ∀ {l : List (Int × Sec)}, i ∉ keysW l → putW i v l = l ++ [(i, v)]
  | [], _ => rfl
  | p :: l, h => by
    simp only [keysW, List.map_cons, List.mem_cons, not_or] at h
    simp only [putW, if_neg h.1, List.cons_append]
    rw [putW_new (l := l) h.2]
theorem put_wsF (f : Nat → UInt8) (k : Nat) : putW (k : Int) (secOf (f k)) (wsF f k) = wsF f (k + 1) := by
  rw [putW_new (by rw [keys_wsF]; simp only [List.mem_map, List.mem_range, not_exists, not_and]; intro x hx; omega), wsF, wsF, List.range_succ, List.map_append]; rfl
theorem wsF_len (f : Nat → UInt8) (k : Nat) : (wsF f k).length = k := by simp [wsF]
theorem nodup_wsF (f : Nat → UInt8) (k : Nat) : (keysW (wsF f k)).Nodup := by
  rw [keys_wsF]
  unfold List.Nodup
  rw [List.pairwise_map]
  exact List.nodup_range.imp fun h e => h (by omega)
theorem look_wsF (f : Nat → UInt8) {k i : Nat} : lookW (i : Int) (wsF f k) = if i < k then some (secOf (f i)) else none := by
  split
  · rename_i h
    exact lookW_mem (nodup_wsF f k) (List.mem_map.2 ⟨i, List.mem_range.2 h, rfl⟩)
  · rename_i h
    exact lookW_none (by rw [keys_wsF]; simp; omega)
theorem sort_wsF (f : Nat → UInt8) (k : Nat) : sortZ (keysW (wsF f k)) = (List.range k).map fun (i : Nat) => (i : Int) := by
  rw [keys_wsF, sortZ]
  refine List.mergeSort_of_pairwise ?_
  rw [List.pairwise_map]
  exact List.pairwise_lt_range.imp fun h => by simp; omega
theorem keep_wsF (f : Nat → UInt8) (kb : List Bool) (ss : Nat → Sec) (k : Nat) (i : Nat) : ∀ j, j ≤ k → keepF ((List.range k).map fun (i : Nat) => (i : Int)) kb (wsF f k) ss j i = if i < j ∧ kb.getD i false = true then secOf (f i) else ss i
  | 0, _ => by simp [keepF]
  | j + 1, h => by
    have ih := keep_wsF f kb ss k i j (by omega)
    have eg : ((List.range k).map fun (i : Nat) => (i : Int)).getD j 0 = (j : Int) := by simp [List.getD, show j < k by omega]
    cases hk : kb.getD j false with
    | true =>
      rw [keepF_yes hk, eg, Int.toNat_natCast, look_wsF, if_pos (show j < k by omega), updS]
      by_cases hi : i = j
      · subst hi; simp only [if_true, Option.getD_some, hk, and_true, Nat.lt_succ_self, if_pos]
      · rw [if_neg hi, ih]
        by_cases hl : i < j
        · simp [hl, show i < j + 1 by omega]
        · simp [hl, show ¬ i < j + 1 by omega]
    | false =>
      rw [keepF_no hk, ih]
      by_cases hi : i = j
      · subst hi; rw [if_neg (by omega), if_neg (by rw [hk]; simp)]
      · by_cases hl : i < j
        · simp [hl, show i < j + 1 by omega]
        · simp [hl, show ¬ i < j + 1 by omega]
theorem DOk.wsF {n : Nat} {ss : Nat → Sec} {f : Nat → UInt8} {k : Nat} {off armed : Bool} {left : Int} (hn : n ≤ 4096) (hk : k ≤ n) (hl : armed = true → off = false → 0 ≤ left) (hr : -9223372036854775808 ≤ left ∧ left ≤ 9223372036854775807) : DOk ⟨n, ss, wsF f k, off, armed, left⟩ :=
  ⟨hn, nodup_wsF f k, fun i hi => by
    simp only [keys_wsF, List.mem_map, List.mem_range] at hi
    obtain ⟨j, hj, rfl⟩ := hi
    exact ⟨by omega, by show (j : Int) < n; omega⟩, hl, hr⟩
/-- n sectors, the first k written. -/
def dK (n : Nat) (ss : Nat → Sec) (f : Nat → UInt8) (k : Nat) : DS := ⟨n, ss, wsF f k, false, false, 0⟩
theorem dK_ok {n : Nat} {ss : Nat → Sec} {f : Nat → UInt8} {k : Nat} (hn : n ≤ 4096) (hk : k ≤ n) : DOk (dK n ss f k) := DOk.wsF hn hk (fun h => by cases h) (by decide)
theorem dK_wr {n : Nat} {ss : Nat → Sec} {f : Nat → UInt8} {k : Nat} (hk : k < n) : (dK n ss f k).wr k (secOf (f k)) = (0, dK n ss f (k + 1)) := by
  rw [wr_calm rfl rfl (has_iff.2 ⟨by omega, by show (k : Int) < n; omega⟩)]
  simp only [DS.write, dK, put_wsF]
def upd1 (f : Nat → UInt8) (k : Nat) (ss : Nat → Sec) (i : Nat) : Sec := if i < k then secOf (f i) else ss i
theorem dK_sync {n : Nat} {ss : Nat → Sec} {f g : Nat → UInt8} {k : Nat} : (dK n ss f k).syncd = dK n (upd1 f k ss) g 0 := by
  rw [syncd_calm rfl rfl]
  simp only [DS.sync, dK, DS.mk.injEq, true_and, and_true]
  refine ⟨?_, rfl⟩
  funext i
  simp only [DS.at, look_wsF, upd1]
  split <;> rfl
theorem dK_err {n : Nat} {ss : Nat → Sec} {f : Nat → UInt8} {k : Nat} : (if (oper (dK n ss f k)).off then 6 else 0) = 0 := by rw [oper_calm rfl]; rfl
theorem dK_rd {n : Nat} {ss : Nat → Sec} {f : Nat → UInt8} {k : Nat} {kb : List Bool} {i : Nat} (hi : i < n) : ((dK n ss f k).crash kb).rd i = (0, if i < k ∧ kb.getD i false = true then secOf (f i) else ss i) := by
  rw [rd_at (has_iff.2 ⟨by omega, by show (i : Int) < n; omega⟩) rfl, Int.toNat_natCast]
  show (0, (lookW i []).getD (keepF (sortZ (keysW (wsF f k))) kb (wsF f k) ss (sortZ (keysW (wsF f k))).length i)) = _
  rw [sort_wsF, List.length_map, List.length_range, keep_wsF f kb ss k i k (Nat.le_refl _)]; rfl
def bF (l : List UInt8) (i : Nat) : UInt8 := l.getD i 0
def keepS (f g : Nat → UInt8) (kb : List Bool) (k j i : Nat) : Sec := if i < j ∧ kb.getD i false = true then secOf (g i) else upd1 f k (fun _ => sec0) i
/-! ### So many operations -/
/-- n sectors, y written one by one; the power lasts l operations; k were begun. -/
def dP (n : Nat) (y : UInt8) (l k : Nat) : DS := if k ≤ l then ⟨n, fun _ => sec0, wsF (fun _ => y) k, false, true, (l : Int) - k⟩ else ⟨n, fun _ => sec0, wsF (fun _ => y) l, true, true, -1⟩
theorem dP_arm (n : Nat) (y : UInt8) (l : Nat) : ({ (⟨n, fun _ => sec0, [], false, false, 0⟩ : DS) with armed := decide (0 ≤ (l : Int)), left := (l : Int) } : DS) = dP n y l 0 := by
  rw [dP, if_pos (Nat.zero_le _)]
  simp [wsF]
theorem dP_ok {n l k : Nat} {y : UInt8} (hn : n ≤ 4096) (hk : min k l ≤ n) (hl : l ≤ 100) : DOk (dP n y l k) := by
  unfold dP; split
  · exact DOk.wsF hn (by omega) (fun _ _ => by omega) (by omega)
  · exact DOk.wsF hn (by omega) (fun _ h => by cases h) (by decide)
theorem dP_off (n : Nat) (y : UInt8) (l k : Nat) : (dP n y l k).off = decide (l < k) := by
  unfold dP; split
  · rename_i h; exact (decide_eq_false (by omega)).symm
  · rename_i h; exact (decide_eq_true (by omega)).symm
theorem dP_len (n : Nat) (y : UInt8) (l k : Nat) : (dP n y l k).ws.length = min l k := by
  unfold dP; split <;> rw [wsF_len] <;> omega
theorem dP_has {n : Nat} {y : UInt8} {l k : Nat} {i : Nat} (hi : i < n) : (dP n y l k).has i = true := has_iff.2 ⟨by omega, by unfold dP; split <;> (show (i : Int) < n; omega)⟩
theorem dP_yes {n : Nat} {y : UInt8} {l k : Nat} (hk : k < n) (hl : k < l) : (dP n y l k).wr k (secOf y) = (0, dP n y l (k + 1)) := by
  have hh := dP_has (n := n) (y := y) (l := l) (k := k) hk
  have ho : oper (dP n y l k) = ⟨n, fun _ => sec0, wsF (fun _ => y) k, false, true, (l : Int) - k - 1⟩ := by
    rw [dP, if_pos (by omega), oper, if_pos ⟨rfl, rfl⟩]
    simp only [DS.mk.injEq, true_and, and_true, decide_eq_false_iff_not]
    omega
  rw [wr_on hh (by rw [ho]), ho, dP, if_pos (by omega)]
  simp only [DS.write, Prod.mk.injEq, DS.mk.injEq, true_and]
  exact ⟨put_wsF (fun _ => y) k, by omega⟩
theorem dP_no {n : Nat} {y : UInt8} {l k : Nat} (hk : k < n) (hl : l ≤ k) : (dP n y l k).wr k (secOf y) = (6, dP n y l (k + 1)) := by
  have hh := dP_has (n := n) (y := y) (l := l) (k := k) hk
  have ho : oper (dP n y l k) = dP n y l (k + 1) := by
    rw [dP, dP, if_neg (show ¬ k + 1 ≤ l by omega)]
    split
    · have : k = l := by omega
      subst this
      rw [oper, if_pos ⟨rfl, rfl⟩]
      simp only [DS.mk.injEq, true_and, decide_eq_true_eq]
      omega
    · exact oper_no (.inr rfl)
  rw [wr_off hh (by rw [ho, dP, if_neg (by omega)]), ho]
end Go.Proofs.YtffkjjakceojfaaDoor
