/- Plain words on slots, part 3: the laws' scripts. -/
import Derived.Test.YtffkjjakceojfaaDoorPlT
import Derived.Test.YtffkjjakceojfaaDoorPlF
import Derived.Test.YtffkjjakceojfaaDoorPlZ
namespace Go.Proofs.YtffkjjakceojfaaDoor
open Go
set_option linter.unusedVariables false
set_option linter.unusedSimpArgs false
structure SL where
  base : Int
  count : Nat
  rec' : List UInt8
def DS.right (d : DS) (b : Int) : Bool := decide (0 ≤ b) && decide (b < (d.n : Int) - 1)
theorem right_iff {d : DS} {b : Int} : d.right b = true ↔ 0 ≤ b ∧ b < (d.n : Int) - 1 := by simp [DS.right]
def fmt (d : DS) (b : Int) : Nat × DS :=
  if d.right b = true then
    if (d.wr b (slotS 0 [])).1 = 0 then
      if ((d.wr b (slotS 0 [])).2.wr (b + 1) sec0).1 = 0 then (if (oper ((d.wr b (slotS 0 [])).2.wr (b + 1) sec0).2).off = true then 6 else 0, ((d.wr b (slotS 0 [])).2.wr (b + 1) sec0).2.syncd)
      else (d.wr b (slotS 0 [])).2.wr (b + 1) sec0
    else d.wr b (slotS 0 [])
  else (1, d)
theorem fmt_ok {d : DS} {b : Int} (h : DOk d) : DOk (fmt d b).2 := by
  unfold fmt
  split
  · split
    · split
      · exact syncd_ok (wr_ok (wr_ok h))
      · exact wr_ok (wr_ok h)
    · exact wr_ok h
  · exact h
def better (o : Option SL) (b : Int) : Option (Nat × List UInt8) → Option SL
  | none => o
  | some x => match o with
    | none => some ⟨b, x.1, x.2⟩
    | some s => if s.count < x.1 then some ⟨b, x.1, x.2⟩ else some s
def opnAt (d : DS) (b : Int) : Nat → Option SL
  | 0 => none
  | p + 1 => better (opnAt d b p) b (rdSlot (d.at (b + (p : Int)).toNat) p)
def opn (d : DS) (b : Int) : Option SL := opnAt d b 2
theorem opn_skip {d : DS} {b : Int} {p : Nat} {o : Option SL} (ho : opnAt d b p = o) (h : rdSlot (d.at (b + (p : Int)).toNat) p = none) : opnAt d b (p + 1) = o := by rw [opnAt, h, ho]; rfl
theorem opn_new {d : DS} {b : Int} {p c : Nat} {r : List UInt8} (ho : opnAt d b p = none) (h : rdSlot (d.at (b + (p : Int)).toNat) p = some (c, r)) : opnAt d b (p + 1) = some ⟨b, c, r⟩ := by rw [opnAt, h, ho]; rfl
theorem opn_more {d : DS} {b : Int} {p c : Nat} {r : List UInt8} {s : SL} (ho : opnAt d b p = some s) (h : rdSlot (d.at (b + (p : Int)).toNat) p = some (c, r)) (hc : s.count < c) : opnAt d b (p + 1) = some ⟨b, c, r⟩ := by rw [opnAt, h, ho]; simp only [better, if_pos hc]
theorem opn_less {d : DS} {b : Int} {p c : Nat} {r : List UInt8} {s : SL} (ho : opnAt d b p = some s) (h : rdSlot (d.at (b + (p : Int)).toNat) p = some (c, r)) (hc : ¬ s.count < c) : opnAt d b (p + 1) = some s := by rw [opnAt, h, ho]; simp only [better, if_neg hc]
def put (d : DS) (s : SL) (r : List UInt8) : Nat × DS × SL :=
  if 31 < r.length then (1, d, s) else
  if s.count = 9223372036854775807 then (8, d, s) else
  if (d.wr (s.base + (((s.count + 1) % 2 : Nat) : Int)) (slotS ((s.count + 1 : Nat) : Int) r)).1 = 0 then
    if (oper (d.wr (s.base + (((s.count + 1) % 2 : Nat) : Int)) (slotS ((s.count + 1 : Nat) : Int) r)).2).off = true then (6, (d.wr (s.base + (((s.count + 1) % 2 : Nat) : Int)) (slotS ((s.count + 1 : Nat) : Int) r)).2.syncd, s)
    else (0, (d.wr (s.base + (((s.count + 1) % 2 : Nat) : Int)) (slotS ((s.count + 1 : Nat) : Int) r)).2.syncd, ⟨s.base, s.count + 1, r⟩)
  else ((d.wr (s.base + (((s.count + 1) % 2 : Nat) : Int)) (slotS ((s.count + 1 : Nat) : Int) r)).1, (d.wr (s.base + (((s.count + 1) % 2 : Nat) : Int)) (slotS ((s.count + 1 : Nat) : Int) r)).2, s)
theorem put_ok {d : DS} {s : SL} {r : List UInt8} (h : DOk d) : DOk (put d s r).2.1 := by
  unfold put
  split
  · exact h
  · split
    · exact h
    · split
      · split
        · exact syncd_ok (wr_ok h)
        · exact syncd_ok (wr_ok h)
      · exact wr_ok h
/-- Two sectors, all synced. -/
def dZ (f : Nat → Sec) : DS := ⟨2, f, [], false, false, 0⟩
theorem dZ_ok (f : Nat → Sec) : DOk (dZ f) := ⟨show 2 ≤ 4096 by decide, by simp [dZ, keysW], by simp [dZ, keysW], (fun h => by cases h), show (-9223372036854775808 : Int) ≤ 0 ∧ (0 : Int) ≤ 9223372036854775807 by decide⟩
theorem dZ_at (f : Nat → Sec) (i : Nat) : (dZ f).at i = f i := rfl
theorem dZ_sync {f : Nat → Sec} {k : Nat} {v : Sec} : ((dZ f).write k v).syncd = dZ (updS f k v) := by
  rw [syncd_calm rfl rfl]
  simp only [DS.sync, DS.write, dZ, putW, DS.mk.injEq, true_and, and_true]
  funext i
  simp only [DS.at, lookW, updS]
  by_cases h : i = k
  · subst h; simp
  · rw [if_neg (by omega), if_neg h]; rfl
theorem dZ_wr {f : Nat → Sec} {k : Nat} {v : Sec} (h : k < 2) : (dZ f).wr k v = (0, (dZ f).write k v) := wr_calm rfl rfl (has_iff.2 ⟨by omega, by show (k : Int) < (2 : Nat); omega⟩)
def fmtF (f : Nat → Sec) : Nat → Sec := updS (updS f 0 (slotS 0 [])) 1 sec0
theorem fmt_Z (f : Nat → Sec) : fmt (dZ f) 0 = (0, dZ (fmtF f)) := by
  have h0 : (dZ f).right 0 = true := rfl
  have h1 : (dZ f).wr 0 (slotS 0 []) = (0, (dZ f).write 0 (slotS 0 [])) := wr_calm rfl rfl rfl
  have h2 : ((dZ f).write 0 (slotS 0 [])).wr (0 + 1) sec0 = (0, ((dZ f).write 0 (slotS 0 [])).write 1 sec0) := wr_calm rfl rfl rfl
  rw [fmt, if_pos h0, h1, if_pos rfl]
  simp only [h2, if_true]
  rw [oper_calm rfl, syncd_calm rfl rfl]
  have e : (((dZ f).write 0 (slotS 0 [])).write 1 sec0).sync = dZ (fmtF f) := by
    simp only [DS.sync, DS.write, dZ, DS.mk.injEq, true_and, and_true]
    funext i
    simp only [DS.at, putW, lookW, fmtF, updS, show ¬ (1 : Int) = 0 by decide, if_false]
    by_cases h0 : i = 0
    · subst h0; rfl
    · by_cases h1 : i = 1
      · subst h1; rfl
      · rw [if_neg (by omega), if_neg (by omega), if_neg h1, if_neg h0]; rfl
  rw [e]; rfl
theorem crash_Z (f : Nat → Sec) (kb : List Bool) : (dZ f).crash kb = dZ f := by rw [crash_idle rfl]; rfl
/-- A disk of two sectors whose power stays. -/
structure Calm2 (d : DS) : Prop where
  ok : DOk d
  n : d.n = 2
  armed : d.armed = false
  off : d.off = false
theorem put_C {d : DS} {s : SL} {r : List UInt8} (h : Calm2 d) (hb : s.base = 0) (hc : s.count < 9223372036854775807) (hr : r.length ≤ 31) : ∃ d', put d s r = (0, d', ⟨s.base, s.count + 1, r⟩) ∧ Calm2 d' := by
  have hw : d.wr (s.base + (((s.count + 1) % 2 : Nat) : Int)) (slotS ((s.count + 1 : Nat) : Int) r) = (0, d.write (s.base + (((s.count + 1) % 2 : Nat) : Int)) (slotS ((s.count + 1 : Nat) : Int) r)) := wr_calm h.armed h.off (has_iff.2 ⟨by omega, by rw [hb, h.n]; omega⟩)
  have hk := wr_ok (i := s.base + (((s.count + 1) % 2 : Nat) : Int)) (v := slotS ((s.count + 1 : Nat) : Int) r) h.ok
  rw [hw] at hk
  refine ⟨(d.write (s.base + (((s.count + 1) % 2 : Nat) : Int)) (slotS ((s.count + 1 : Nat) : Int) r)).sync, ?_, sync_ok hk, h.n, h.armed, h.off⟩
  rw [put, if_neg (by omega), if_neg (by omega), hw, if_pos rfl]
  generalize hW : d.write (s.base + (((s.count + 1) % 2 : Nat) : Int)) (slotS ((s.count + 1 : Nat) : Int) r) = W
  have ha : W.armed = false := by rw [← hW]; exact h.armed
  have hof : W.off = false := by rw [← hW]; exact h.off
  simp only [oper_calm ha, syncd_calm ha hof, hof, Bool.false_eq_true, if_false]
theorem put_Z {f : Nat → Sec} {c : Nat} {q r : List UInt8} (hc : c < 9223372036854775807) (hr : r.length ≤ 31) : put (dZ f) ⟨0, c, q⟩ r = (0, dZ (updS f ((c + 1) % 2) (slotS ((c + 1 : Nat) : Int) r)), ⟨0, c + 1, r⟩) := by
  have hk : (c + 1) % 2 < 2 := Nat.mod_lt _ (by decide)
  have hw := dZ_wr (f := f) (v := slotS ((c + 1 : Nat) : Int) r) hk
  rw [put, if_neg (by omega), if_neg (by simp only; omega)]
  simp only [Int.zero_add, hw, if_true]
  rw [oper_calm rfl, if_neg (by show ¬ false = true; decide), dZ_sync]
/-- Sectors that hold a record of a count, and nothing newer. -/
structure GoodAt (f : Nat → Sec) (c : Nat) (r : List UInt8) : Prop where
  cl : c < 9223372036854775808
  rl : r.length ≤ 31
  me : f (c % 2) = slotS (c : Int) r
  it : ∀ x, rdSlot (f ((c + 1) % 2)) ((c + 1) % 2) = some x → x.1 < c
theorem opn_good {d : DS} {c : Nat} {r : List UInt8} (h : GoodAt d.at c r) : opn d 0 = some ⟨0, c, r⟩ := by
  have h1 := rd_slot (r := r) h.cl h.rl
  rw [← h.me] at h1
  have hit := h.it
  show better (better none 0 (rdSlot (d.at ((0 : Int) + ((0 : Nat) : Int)).toNat) 0)) 0 (rdSlot (d.at ((0 : Int) + ((1 : Nat) : Int)).toNat) 1) = _
  rw [show ((0 : Int) + ((0 : Nat) : Int)).toNat = 0 from rfl, show ((0 : Int) + ((1 : Nat) : Int)).toNat = 1 from rfl]
  rcases (show c % 2 = 0 ∨ c % 2 = 1 by omega) with e | e
  · have e2 : (c + 1) % 2 = 1 := by omega
    rw [e] at h1
    rw [e2] at hit
    rw [h1]
    cases hx : rdSlot (d.at 1) 1 with
    | none => rfl
    | some x =>
      have := hit x hx
      simp only [better]
      rw [if_neg (by omega)]
  · have e2 : (c + 1) % 2 = 0 := by omega
    rw [e] at h1
    rw [e2] at hit
    rw [h1]
    cases hx : rdSlot (d.at 0) 0 with
    | none => rfl
    | some x =>
      have := hit x hx
      simp only [better]
      rw [if_pos this]
theorem opn_none {d : DS} {b : Int} (h0 : rdSlot (d.at (b + ((0 : Nat) : Int)).toNat) 0 = none) (h1 : rdSlot (d.at (b + ((1 : Nat) : Int)).toNat) 1 = none) : opn d b = none := by
  show better (better none b (rdSlot (d.at (b + ((0 : Nat) : Int)).toNat) 0)) b (rdSlot (d.at (b + ((1 : Nat) : Int)).toNat) 1) = none
  rw [h0, h1]; rfl
theorem good_put {f : Nat → Sec} {c : Nat} {q r : List UInt8} (h : GoodAt f c q) (hc : c + 1 < 9223372036854775808) (hr : r.length ≤ 31) : GoodAt (updS f ((c + 1) % 2) (slotS ((c + 1 : Nat) : Int) r)) (c + 1) r := by
  refine ⟨hc, hr, by rw [updS, if_pos rfl], fun x hx => ?_⟩
  have e : (c + 1 + 1) % 2 = c % 2 := by omega
  rw [e, updS, if_neg (by omega), h.me, rd_slot h.cl h.rl] at hx
  cases hx
  exact Nat.lt_succ_self _
theorem good_fmt (f : Nat → Sec) : GoodAt (fmtF f) 0 [] := ⟨by decide, by decide, rfl, fun x hx => (by rw [show fmtF f ((0 + 1) % 2) = sec0 from rfl, show (0 + 1) % 2 = 1 from rfl, rd_zero1] at hx; cases hx)⟩
/-! ### The chapter's example -/
def aF0 : Nat → Sec := fmtF fun _ => sec0
def aF1 : Nat → Sec := updS aF0 1 (slotS ((1 : Nat) : Int) [97])
def aF2 : Nat → Sec := updS aF1 0 (slotS ((2 : Nat) : Int) [98])
theorem aF1_put : put (dZ aF0) ⟨0, 0, []⟩ [97] = (0, dZ aF1, ⟨0, 1, [97]⟩) := put_Z (by decide) (by decide)
theorem aF2_put : put (dZ aF1) ⟨0, 1, [97]⟩ [98] = (0, dZ aF2, ⟨0, 2, [98]⟩) := put_Z (by decide) (by decide)
theorem aF2_opn : opn (dZ aF2) 0 = some ⟨0, 2, [98]⟩ := opn_good (good_put (good_put (good_fmt _) (by decide) (by decide)) (by decide) (by decide))
/-! ### Records in a row -/
def recs (xs : List (List UInt8)) : Nat → List UInt8
  | 0 => []
  | j + 1 => xs.getD j []
def fE (xs : List (List UInt8)) : Nat → Nat → Sec
  | 0 => fmtF fun _ => sec0
  | k + 1 => updS (fE xs k) ((k + 1) % 2) (slotS ((k + 1 : Nat) : Int) (recs xs (k + 1)))
theorem fE_me (xs : List (List UInt8)) (k : Nat) : fE xs k (k % 2) = slotS (k : Int) (recs xs k) := by
  cases k with
  | zero => rfl
  | succ k => rw [fE, updS, if_pos rfl]
theorem fE_old (xs : List (List UInt8)) (k : Nat) : fE xs (k + 1) (k % 2) = slotS (k : Int) (recs xs k) := by
  rw [fE, updS, if_neg (by omega), fE_me]
theorem dE_put {xs : List (List UInt8)} {k : Nat} (hk : k ≤ 20) (h : (recs xs (k + 1)).length ≤ 31) : put (dZ (fE xs k)) ⟨0, k, recs xs k⟩ (recs xs (k + 1)) = (0, dZ (fE xs (k + 1)), ⟨0, k + 1, recs xs (k + 1)⟩) := put_Z (by omega) h
/-- The newer slot is lost. -/
def dN (xs : List (List UInt8)) (n : Nat) : DS := (dZ (fE xs n)).write ((n % 2 : Nat) : Int) sec0
def dB (xs : List (List UInt8)) (n : Nat) : DS := (dN xs n).write (((n + 1) % 2 : Nat) : Int) sec0
theorem dN_wr (xs : List (List UInt8)) (n : Nat) : (dZ (fE xs n)).wr ((n % 2 : Nat) : Int) sec0 = (0, dN xs n) := dZ_wr (Nat.mod_lt _ (by decide))
theorem dB_wr (xs : List (List UInt8)) (n : Nat) : (dN xs n).wr (((n + 1) % 2 : Nat) : Int) sec0 = (0, dB xs n) := wr_calm rfl rfl (has_iff.2 ⟨by omega, by show ((((n + 1) % 2 : Nat)) : Int) < (2 : Nat); omega⟩)
theorem dN_ok (xs : List (List UInt8)) (n : Nat) : DOk (dN xs n) := by have := wr_ok (i := ((n % 2 : Nat) : Int)) (v := sec0) (dZ_ok (fE xs n)); rwa [dN_wr] at this
theorem dB_ok (xs : List (List UInt8)) (n : Nat) : DOk (dB xs n) := by have := wr_ok (i := (((n + 1) % 2 : Nat) : Int)) (v := sec0) (dN_ok xs n); rwa [dB_wr] at this
theorem dN_me (xs : List (List UInt8)) (n : Nat) : (dN xs n).at (n % 2) = sec0 := by simp [DS.at, dN, DS.write, dZ, putW, lookW]
theorem dN_it (xs : List (List UInt8)) (n : Nat) : (dN xs n).at ((n + 1) % 2) = fE xs n ((n + 1) % 2) := by
  have : ¬ (((n + 1) % 2 : Nat) : Int) = ((n % 2 : Nat) : Int) := by omega
  simp only [DS.at, dN, DS.write, dZ, putW, lookW, if_neg this]; rfl
theorem dN_opn {xs : List (List UInt8)} {n : Nat} (h1 : 1 ≤ n) (hn : n ≤ 20) (hr : (recs xs (n - 1)).length ≤ 31) : opn (dN xs n) 0 = some ⟨0, n - 1, recs xs (n - 1)⟩ := by
  obtain ⟨k, rfl⟩ : ∃ k, n = k + 1 := ⟨n - 1, by omega⟩
  have e : (k + 1 + 1) % 2 = k % 2 := by omega
  refine opn_good ⟨by omega, hr, ?_, fun x hx => ?_⟩
  · have := dN_it xs (k + 1)
    rw [e] at this
    rw [Nat.add_sub_cancel, this]; exact fE_old xs k
  · rw [Nat.add_sub_cancel, dN_me, rd_zero _ (Nat.mod_lt _ (by decide))] at hx
    cases hx
theorem dB_at (xs : List (List UInt8)) (n p : Nat) (hp : p < 2) : (dB xs n).at p = sec0 := by
  have hne : ¬ (((n + 1) % 2 : Nat) : Int) = ((n % 2 : Nat) : Int) := by omega
  have e : (dB xs n).at p = ((if (p : Int) = ((n % 2 : Nat) : Int) then some sec0 else if (p : Int) = (((n + 1) % 2 : Nat) : Int) then some sec0 else none).getD (fE xs n p)) := by
    simp only [DS.at, dB, dN, DS.write, dZ, putW, lookW, if_neg hne]
  rw [e]
  by_cases h : (p : Int) = ((n % 2 : Nat) : Int)
  · rw [if_pos h]; rfl
  · rw [if_neg h, if_pos (by omega)]; rfl
theorem dB_opn (xs : List (List UInt8)) (n : Nat) : opn (dB xs n) 0 = none := opn_none
  (by rw [show ((0 : Int) + ((0 : Nat) : Int)).toNat = 0 from rfl, dB_at _ _ 0 (by decide), rd_zero0]) (by rw [show ((0 : Int) + ((1 : Nat) : Int)).toNat = 1 from rfl, dB_at _ _ 1 (by decide), rd_zero1])
/-! ### The greatest count -/
def dG (c : Nat) (r : List UInt8) : DS := (dZ fun _ => sec0).write ((c % 2 : Nat) : Int) (slotS (c : Int) r)
theorem dG_wr (c : Nat) (r : List UInt8) : (dZ fun _ => sec0).wr ((c % 2 : Nat) : Int) (slotS (c : Int) r) = (0, dG c r) := dZ_wr (Nat.mod_lt _ (by decide))
theorem dG_ok (c : Nat) (r : List UInt8) : DOk (dG c r) := by have := wr_ok (i := ((c % 2 : Nat) : Int)) (v := slotS (c : Int) r) (dZ_ok fun _ => sec0); rwa [dG_wr] at this
theorem dG_calm (c : Nat) (r : List UInt8) : Calm2 (dG c r) := ⟨dG_ok c r, rfl, rfl, rfl⟩
theorem dG_opn {c : Nat} {r : List UInt8} (hc : c < 9223372036854775808) (hr : r.length ≤ 31) : opn (dG c r) 0 = some ⟨0, c, r⟩ := by
  refine opn_good ⟨hc, hr, by simp [DS.at, dG, DS.write, dZ, putW, lookW], fun x hx => ?_⟩
  have hne : ¬ (((c + 1) % 2 : Nat) : Int) = ((c % 2 : Nat) : Int) := by omega
  have e : (dG c r).at ((c + 1) % 2) = sec0 := by simp only [DS.at, dG, DS.write, dZ, putW, lookW, if_neg hne]; rfl
  rw [e, rd_zero _ (Nat.mod_lt _ (by decide))] at hx
  cases hx
theorem put_full {d : DS} {s : SL} {r : List UInt8} (hr : r.length ≤ 31) (hc : s.count = 9223372036854775807) : put d s r = (8, d, s) := by rw [put, if_neg (by omega), if_pos hc]
/-- A slot in the other one's place. -/
def dO (c : Nat) (r : List UInt8) : DS := (dZ fun _ => sec0).write (((c + 1) % 2 : Nat) : Int) (slotS (c : Int) r)
theorem dO_wr (c : Nat) (r : List UInt8) : (dZ fun _ => sec0).wr (((c + 1) % 2 : Nat) : Int) (slotS (c : Int) r) = (0, dO c r) := dZ_wr (Nat.mod_lt _ (by decide))
theorem dO_ok (c : Nat) (r : List UInt8) : DOk (dO c r) := by have := wr_ok (i := (((c + 1) % 2 : Nat) : Int)) (v := slotS (c : Int) r) (dZ_ok fun _ => sec0); rwa [dO_wr] at this
theorem dO_opn {c : Nat} {r : List UInt8} (hc : c < 9223372036854775808) : opn (dO c r) 0 = none := by
  have key : ∀ p, p < 2 → rdSlot ((dO c r).at p) p = none := fun p hp => by
    by_cases h : p = (c + 1) % 2
    · have e : (dO c r).at p = slotS (c : Int) r := by rw [h]; simp [DS.at, dO, DS.write, dZ, putW, lookW]
      rw [e]; exact rd_other hc (by omega)
    · have hne : ¬ (p : Int) = (((c + 1) % 2 : Nat) : Int) := by omega
      have e : (dO c r).at p = sec0 := by simp only [DS.at, dO, DS.write, dZ, putW, lookW, if_neg hne]; rfl
      rw [e]; exact rd_zero p hp
  exact opn_none (key 0 (by decide)) (key 1 (by decide))
theorem recs_len {xs : List (List UInt8)} {k : Nat} (h : ∀ j, j < k → (xs.getD j []).length ≤ 31) : (recs xs k).length ≤ 31 := by
  cases k with
  | zero => exact Nat.zero_le _
  | succ k => exact h k (Nat.lt_succ_self k)
/-! ### Which places are refused -/
def dF (n : Nat) : DS := ⟨n, fun _ => sec0, [], false, false, 0⟩
def dR (n l : Nat) : DS := ⟨n, fun _ => sec0, [], false, true, (l : Int)⟩
theorem dF_ok {n : Nat} (h : n ≤ 6) : DOk (dF n) := ⟨show n ≤ 4096 by omega, by simp [dF, keysW], by simp [dF, keysW], (fun h => by cases h), show (-9223372036854775808 : Int) ≤ 0 ∧ (0 : Int) ≤ 9223372036854775807 by decide⟩
theorem dR_ok {n l : Nat} (h : n ≤ 6) (hl : l ≤ 6) : DOk (dR n l) := ⟨show n ≤ 4096 by omega, by simp [dR, keysW], by simp [dR, keysW], fun _ _ => (show (0 : Int) ≤ (l : Int) by omega), show (-9223372036854775808 : Int) ≤ (l : Int) ∧ (l : Int) ≤ 9223372036854775807 by omega⟩
theorem dR_arm (n l : Nat) : ({ dF n with armed := decide (0 ≤ (l : Int)), left := (l : Int) } : DS) = dR n l := by simp [dF, dR]
theorem dF_opn (n : Nat) (b : Int) : opn (dF n) b = none := opn_none (by show rdSlot sec0 0 = none; exact rd_zero0) (by show rdSlot sec0 1 = none; exact rd_zero1)
theorem wr_armed0 {d : DS} {i : Int} {v : Sec} (hi : d.has i = true) (ha : d.armed = true) (ho : d.off = false) (hl : d.left = 0) : (d.wr i v).1 = 6 := by
  rw [wr_off hi (by rw [(oper_yes ha ho).1]; exact decide_eq_true hl)]
theorem wr_armed1 {d : DS} {i : Int} {v : Sec} (hi : d.has i = true) (ha : d.armed = true) (ho : d.off = false) (hl : d.left ≠ 0) : (d.wr i v).1 = 0 ∧ (d.wr i v).2.n = d.n ∧ (d.wr i v).2.armed = true ∧ (d.wr i v).2.off = false ∧ (d.wr i v).2.left = d.left - 1 := by
  obtain ⟨h1, h2, h3⟩ := oper_yes ha ho
  have h4 : (oper d).off = false := by rw [h1]; exact decide_eq_false hl
  rw [wr_on hi h4]
  exact ⟨rfl, oper_n d, by show (oper d).armed = true; rw [h2]; exact ha, h4, h3⟩
theorem fmt_R {n l : Nat} {b : Int} (hb : (dR n l).right b = true) : (fmt (dR n l) b).1 = if l < 3 then 6 else 0 := by
  obtain ⟨h0, h1⟩ := right_iff.1 hb
  have hn : ((dR n l).n : Int) = n := rfl
  have i0 : (dR n l).has b = true := has_iff.2 ⟨h0, by omega⟩
  rw [fmt, if_pos hb]
  by_cases l0 : l = 0
  · have := wr_armed0 (v := slotS 0 []) i0 rfl rfl (show ((l : Nat) : Int) = 0 by omega)
    rw [if_neg (by rw [this]; decide), this, if_pos (by omega)]
  · obtain ⟨e1, e2, e3, e4, e5⟩ := wr_armed1 (v := slotS 0 []) i0 rfl rfl (show ((l : Nat) : Int) ≠ 0 by omega)
    replace e5 : ((dR n l).wr b (slotS 0 [])).2.left = (l : Int) - 1 := e5
    rw [if_pos e1]
    generalize ((dR n l).wr b (slotS 0 [])).2 = w1 at *
    have i1 : w1.has (b + 1) = true := has_iff.2 ⟨by omega, by rw [e2]; omega⟩
    by_cases l1 : l = 1
    · have := wr_armed0 (v := sec0) i1 e3 e4 (by omega)
      rw [if_neg (by rw [this]; decide), this, if_pos (by omega)]
    · obtain ⟨f1, f2, f3, f4, f5⟩ := wr_armed1 (v := sec0) i1 e3 e4 (by omega)
      rw [if_pos f1]
      generalize (w1.wr (b + 1) sec0).2 = w2 at *
      show (if (oper w2).off = true then 6 else 0) = _
      rw [(oper_yes f3 f4).1]
      by_cases l2 : l = 2
      · rw [if_pos (decide_eq_true (by omega)), if_pos (by omega)]
      · rw [if_neg (by simp; omega), if_neg (by omega)]
theorem fmt_N {d : DS} {b : Int} (hb : d.right b = false) : fmt d b = (1, d) := by rw [fmt, if_neg (by rw [hb]; decide)]
end Go.Proofs.YtffkjjakceojfaaDoor
