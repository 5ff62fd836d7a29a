/- Plain words: what a writer of layer 1 holds, and what its calls make of it. No program in sight. -/
import Derived.KernelRfl
namespace Go.Proofs.YtffkjjakceojfaaDoor
set_option linter.unusedVariables false

structure WS where
  err : Nat
  bs : List UInt8
def byteAt (n : Int) (i : Nat) : UInt8 := UInt8.ofNat (n / 2 ^ (8 * i) % 256).toNat
def beN (n : Int) (wd : Nat) : List UInt8 := (List.range wd).map fun j => byteAt n (wd - 1 - j)
def wFail (k : Nat) (s : WS) : WS := if s.err = 0 then { s with err := k } else s
def wFix (b : List UInt8) (s : WS) : WS := if s.err = 0 then { s with bs := s.bs ++ b } else s
def wNum (n : Int) (wd : Nat) (s : WS) : WS := if n < 0 ∨ (wd < 8 ∧ 2 ^ (8 * wd) ≤ n) then wFail 1 s else wFix (beN n wd) s
theorem beN_length (n : Int) (wd : Nat) : (beN n wd).length = wd := by simp [beN]
theorem beN_zero (n : Int) (wd k : Nat) : beN n 0 = [] := rfl
theorem wFail_bs (k : Nat) (s : WS) : (wFail k s).bs = s.bs := by unfold wFail; split <;> rfl
theorem wFix_len (b : List UInt8) (s : WS) : (wFix b s).bs.length ≤ s.bs.length + b.length := by unfold wFix; split <;> simp
theorem wNum_len (n : Int) (wd : Nat) (s : WS) : (wNum n wd s).bs.length ≤ s.bs.length + wd := by
  unfold wNum; split
  · rw [wFail_bs]; omega
  · have := wFix_len (beN n wd) s; rw [beN_length] at this; exact this
end Go.Proofs.YtffkjjakceojfaaDoor
