/- Plain words on slots: a slot's bytes, and what is read off a sector. -/
import Derived.Test.YtffkjjakceojfaaDoorHe
import Derived.Test.YtffkjjakceojfaaDoorPlR
import Derived.Test.YtffkjjakceojfaaDoorPlD
import Derived.Test.YtffkjjakceojfaaDoorEngP
namespace Go.Proofs.YtffkjjakceojfaaDoor
open Go
set_option linter.unusedVariables false
set_option linter.unusedSimpArgs false
def mx0 (c : Int) : Int := if c < 0 then 0 else c
def body7 (c : Int) (r : List UInt8) : List UInt8 := beN c 8 ++ UInt8.ofNat r.length :: (r ++ List.replicate (31 - r.length) 0)
theorem body7_len {c : Int} {r : List UInt8} (h : r.length ≤ 31) : (body7 c r).length = 40 := by simp [body7, beN_length]; omega
theorem take31 (r : List UInt8) : (r.take 31).length ≤ 31 := by rw [List.length_take]; omega
def sum7 (c : Int) (r : List UInt8) : List UInt8 := (dOf Kc 5 [body7 c r]).l
theorem sum7_len (c : Int) (r : List UInt8) : (sum7 c r).length = 16 := (dOf Kc 5 [body7 c r]).h
def slotL (c : Int) (r : List UInt8) : List UInt8 := body7 c r ++ (sum7 c r ++ List.replicate 8 0)
def slotS (c : Int) (r : List UInt8) : Sec := ⟨slotL (mx0 c) (r.take 31), by rw [slotL, List.length_append, List.length_append, body7_len (take31 r), sum7_len]; simp⟩
theorem slot_build {c : Int} {r : List UInt8} (h : r.length ≤ 31) : updY 40 (sum7 c r) ((updY 9 r (beN c 8 ++ List.replicate 56 0)).set 8 (UInt8.ofNat r.length)) = slotL c r := by
  have hb := beN_length c 8
  have e1 : updY 9 r (beN c 8 ++ List.replicate 56 0) = beN c 8 ++ 0 :: (r ++ List.replicate (55 - r.length) 0) := by
    rw [updY, List.take_append, List.drop_append, hb, List.take_of_length_le (by omega), List.drop_eq_nil_of_le (by omega)]
    simp only [List.nil_append, List.drop_replicate, List.append_assoc]
    rw [show List.take (9 - 8) (List.replicate 56 (0 : UInt8)) = [0] from rfl]
    simp only [List.cons_append, List.nil_append]
    rw [show 56 - (9 + r.length - 8) = 55 - r.length by omega]
  have e2 : (beN c 8 ++ 0 :: (r ++ List.replicate (55 - r.length) 0)).set 8 (UInt8.ofNat r.length) = body7 c r ++ List.replicate 24 0 := by
    rw [List.set_append_right _ _ (by omega), hb, body7]
    simp only [Nat.sub_self, List.set_cons_zero, List.append_assoc, List.cons_append]
    rw [show 55 - r.length = (31 - r.length) + 24 by omega, ← List.replicate_append_replicate]
  rw [e1, e2, updY, List.take_append, List.drop_append, body7_len h, List.take_of_length_le (by rw [body7_len h]; omega), List.drop_eq_nil_of_le (by rw [body7_len h]; omega), sum7_len, slotL]
  simp
theorem slot_body {c : Int} {r : List UInt8} (h : r.length ≤ 31) : (((updY 9 r (beN c 8 ++ List.replicate 56 0)).set 8 (UInt8.ofNat r.length)).drop 0).take 40 = body7 c r := by
  have e := congrArg (List.take 40) (slot_build (c := c) h)
  have hl : ((updY 9 r (beN c 8 ++ List.replicate 56 0)).set 8 (UInt8.ofNat r.length)).length = 64 := by simp [updY, beN_length]; omega
  rw [updY, List.take_append_of_le_length (by rw [List.length_take, hl]; omega), List.take_take] at e
  rw [List.drop_zero]
  simp only [Nat.min_self] at e
  rw [e, slotL, List.take_append_of_le_length (by rw [body7_len h]; omega), List.take_of_length_le (by rw [body7_len h]; omega)]
theorem slot_step {c : Int} {k : Nat} (hk : k < 8) : ((beN c 8).take k ++ List.replicate (64 - k) 0).set k (byteAt c (8 - 1 - k)) = (beN c 8).take (k + 1) ++ List.replicate (64 - (k + 1)) 0 := by
  have hb := beN_length c 8
  have hk2 : ((beN c 8).take k).length = k := by rw [List.length_take]; omega
  rw [List.set_append_right _ _ (by omega), hk2, Nat.sub_self, show 64 - k = (64 - (k + 1)) + 1 by omega, List.replicate_succ, List.set_cons_zero, List.take_add_one]
  have : (beN c 8)[k]? = some (byteAt c (8 - 1 - k)) := by simp [beN, hk]
  rw [this]
  simp
/-! ### Reading -/
def cntS (s : Sec) : Nat := valN (s.l.take 8)
def lenS (s : Sec) : Nat := (s.l.getD 8 0).toNat
def recS (s : Sec) : List UInt8 := (s.l.drop 9).take (lenS s)
theorem cntS_lt (s : Sec) : cntS s < 18446744073709551616 := by
  have := valN_lt (s.l.take 8)
  have e : (s.l.take 8).length = 8 := by rw [List.length_take, s.h]; rfl
  rw [e] at this
  exact Nat.lt_of_lt_of_le this (by decide)
theorem recS_len {s : Sec} (h : lenS s ≤ 31) : (recS s).length = lenS s := by rw [recS, List.length_take, List.length_drop, s.h]; omega
def rdSlot (s : Sec) (p : Nat) : Option (Nat × List UInt8) := if cntS s < 9223372036854775808 ∧ cntS s % 2 = p ∧ lenS s ≤ 31 ∧ slotS (cntS s) (recS s) = s then some (cntS s, recS s) else none
theorem rdSlot_some {s : Sec} {p c : Nat} {r : List UInt8} (h : rdSlot s p = some (c, r)) : c = cntS s ∧ r = recS s ∧ c < 9223372036854775808 ∧ c % 2 = p ∧ lenS s ≤ 31 ∧ slotS c r = s ∧ r.length = lenS s := by
  unfold rdSlot at h
  split at h
  · rename_i hc
    cases h
    exact ⟨rfl, rfl, hc.1, hc.2.1, hc.2.2.1, hc.2.2.2, recS_len hc.2.2.1⟩
  · cases h
theorem slot_take8 {c : Nat} {r : List UInt8} (h : c < 9223372036854775808) : (slotS c r).l.take 8 = beN (c : Int) 8 := by
  show (slotL (mx0 c) (r.take 31)).take 8 = _
  rw [mx0, if_neg (by omega), slotL, body7, List.append_assoc, List.take_append_of_le_length (by rw [beN_length]; omega), List.take_of_length_le (by rw [beN_length]; omega)]
theorem slot_cnt {c : Nat} {r : List UInt8} (h : c < 9223372036854775808) : cntS (slotS c r) = c := by
  rw [cntS, slot_take8 h, valN_beN, Nat.mod_eq_of_lt (Nat.lt_trans h (by decide))]
theorem slot_drop8 {c : Nat} {r : List UInt8} (h : c < 9223372036854775808) (hr : r.length ≤ 31) : (slotS c r).l.drop 8 = UInt8.ofNat r.length :: (r ++ (List.replicate (31 - r.length) 0 ++ (sum7 c r ++ List.replicate 8 0))) := by
  show (slotL (mx0 c) (r.take 31)).drop 8 = _
  rw [mx0, if_neg (by omega), List.take_of_length_le hr, slotL, body7, List.append_assoc, List.drop_append, beN_length, List.drop_eq_nil_of_le (by rw [beN_length]; omega)]
  simp
theorem slot_len {c : Nat} {r : List UInt8} (h : c < 9223372036854775808) (hr : r.length ≤ 31) : lenS (slotS c r) = r.length := by
  have e : (slotS c r).l.getD 8 0 = UInt8.ofNat r.length := by
    have := congrArg (fun l => l[0]?) (slot_drop8 (r := r) h hr)
    simp only [List.getElem?_drop, List.getElem?_cons_zero, Nat.add_zero] at this
    simp [List.getD, this]
  rw [lenS, e, UInt8.toNat_ofNat']
  omega
theorem slot_rec {c : Nat} {r : List UInt8} (h : c < 9223372036854775808) (hr : r.length ≤ 31) : recS (slotS c r) = r := by
  rw [recS, slot_len h hr, show (slotS c r).l.drop 9 = ((slotS c r).l.drop 8).drop 1 by rw [List.drop_drop], slot_drop8 h hr]
  simp
theorem rd_slot {c : Nat} {r : List UInt8} (h : c < 9223372036854775808) (hr : r.length ≤ 31) : rdSlot (slotS c r) (c % 2) = some (c, r) := by
  rw [rdSlot, slot_cnt h, slot_len h hr, slot_rec h hr, if_pos ⟨h, rfl, hr, rfl⟩]
theorem rd_other {c p : Nat} {r : List UInt8} (h : c < 9223372036854775808) (hp : c % 2 ≠ p) : rdSlot (slotS c r) p = none := by
  rw [rdSlot, slot_cnt h, if_neg (fun k => hp k.2.1)]
theorem rd_zero1 : rdSlot sec0 1 = none := by
  have : cntS sec0 = 0 := by simp [cntS, sec0, valN]
  rw [rdSlot, this, if_neg (by omega)]
end Go.Proofs.YtffkjjakceojfaaDoor
