/- Plain words on slots, part 2: what Format, Open, Put make of a disk. -/
import Derived.Test.YtffkjjakceojfaaDoorPlT
import Derived.Test.YtffkjjakceojfaaDoorPlF
namespace Go.Proofs.YtffkjjakceojfaaDoor
open Go
set_option linter.unusedVariables false
set_option linter.unusedSimpArgs false
structure SL where
  base : Int
  count : Nat
  rec' : List UInt8
def DS.right (d : DS) (b : Int) : Bool := decide (0 ≤ b) && decide (b < (d.n : Int) - 1)
theorem right_iff {d : DS} {b : Int} : d.right b = true ↔ 0 ≤ b ∧ b < (d.n : Int) - 1 := by simp [DS.right]
def fmt (d : DS) (b : Int) : Nat × DS :=
  if d.right b = true then
    if (d.wr b (slotS 0 [])).1 = 0 then
      if ((d.wr b (slotS 0 [])).2.wr (b + 1) sec0).1 = 0 then (if (oper ((d.wr b (slotS 0 [])).2.wr (b + 1) sec0).2).off = true then 6 else 0, ((d.wr b (slotS 0 [])).2.wr (b + 1) sec0).2.syncd)
      else (d.wr b (slotS 0 [])).2.wr (b + 1) sec0
    else d.wr b (slotS 0 [])
  else (1, d)
theorem fmt_ok {d : DS} {b : Int} (h : DOk d) : DOk (fmt d b).2 := by
  unfold fmt
  split
  · split
    · split
      · exact syncd_ok (wr_ok (wr_ok h))
      · exact wr_ok (wr_ok h)
    · exact wr_ok h
  · exact h
def better (o : Option SL) (b : Int) : Option (Nat × List UInt8) → Option SL
  | none => o
  | some x => match o with
    | none => some ⟨b, x.1, x.2⟩
    | some s => if s.count < x.1 then some ⟨b, x.1, x.2⟩ else some s
def opnAt (d : DS) (b : Int) : Nat → Option SL
  | 0 => none
  | p + 1 => better (opnAt d b p) b (rdSlot (d.at (b + (p : Int)).toNat) p)
def opn (d : DS) (b : Int) : Option SL := opnAt d b 2
theorem opn_skip {d : DS} {b : Int} {p : Nat} {o : Option SL} (ho : opnAt d b p = o) (h : rdSlot (d.at (b + (p : Int)).toNat) p = none) : opnAt d b (p + 1) = o := by rw [opnAt, h, ho]; rfl
theorem opn_new {d : DS} {b : Int} {p c : Nat} {r : List UInt8} (ho : opnAt d b p = none) (h : rdSlot (d.at (b + (p : Int)).toNat) p = some (c, r)) : opnAt d b (p + 1) = some ⟨b, c, r⟩ := by rw [opnAt, h, ho]; rfl
theorem opn_more {d : DS} {b : Int} {p c : Nat} {r : List UInt8} {s : SL} (ho : opnAt d b p = some s) (h : rdSlot (d.at (b + (p : Int)).toNat) p = some (c, r)) (hc : s.count < c) : opnAt d b (p + 1) = some ⟨b, c, r⟩ := by rw [opnAt, h, ho]; simp only [better, if_pos hc]
theorem opn_less {d : DS} {b : Int} {p c : Nat} {r : List UInt8} {s : SL} (ho : opnAt d b p = some s) (h : rdSlot (d.at (b + (p : Int)).toNat) p = some (c, r)) (hc : ¬ s.count < c) : opnAt d b (p + 1) = some s := by rw [opnAt, h, ho]; simp only [better, if_neg hc]
def put (d : DS) (s : SL) (r : List UInt8) : Nat × DS × SL :=
  if 31 < r.length then (1, d, s) else
  if s.count = 9223372036854775807 then (8, d, s) else
  if (d.wr (s.base + (((s.count + 1) % 2 : Nat) : Int)) (slotS ((s.count + 1 : Nat) : Int) r)).1 = 0 then
    if (oper (d.wr (s.base + (((s.count + 1) % 2 : Nat) : Int)) (slotS ((s.count + 1 : Nat) : Int) r)).2).off = true then (6, (d.wr (s.base + (((s.count + 1) % 2 : Nat) : Int)) (slotS ((s.count + 1 : Nat) : Int) r)).2.syncd, s)
    else (0, (d.wr (s.base + (((s.count + 1) % 2 : Nat) : Int)) (slotS ((s.count + 1 : Nat) : Int) r)).2.syncd, ⟨s.base, s.count + 1, r⟩)
  else ((d.wr (s.base + (((s.count + 1) % 2 : Nat) : Int)) (slotS ((s.count + 1 : Nat) : Int) r)).1, (d.wr (s.base + (((s.count + 1) % 2 : Nat) : Int)) (slotS ((s.count + 1 : Nat) : Int) r)).2, s)
theorem put_ok {d : DS} {s : SL} {r : List UInt8} (h : DOk d) : DOk (put d s r).2.1 := by
  unfold put
  split
  · exact h
  · split
    · exact h
    · split
      · split
        · exact syncd_ok (wr_ok h)
        · exact syncd_ok (wr_ok h)
      · exact wr_ok h
end Go.Proofs.YtffkjjakceojfaaDoor
