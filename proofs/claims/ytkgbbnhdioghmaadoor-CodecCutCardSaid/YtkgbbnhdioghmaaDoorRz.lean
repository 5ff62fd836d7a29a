/- Zero values: their cells, and what they read as. -/
import Derived.Test.YtkgbbnhdioghmaaDoorPlR
namespace Go.Proofs.YtkgbbnhdioghmaaDoor
open Go
set_option linter.unusedVariables false

def nilS : Value := .slice none 0 0
def i0 : Value := .int .i64 0
def sigC : List Value := [i0, nilS, nilS]
def sgnC : List Value := i0 :: sigC
def qcC : List Value := i0 :: i0 :: (dc dig0 ++ [nilS])
def tcC : List Value := [i0, i0, nilS]
def blkC : List Value := i0 :: i0 :: (dc dig0 ++ (qcC ++ [nilS, nilS]))
section zero
variable {w : World} {A : Nat → Prop}
theorem rdSig0 : RdSig w A sigC sig0 := ⟨none, 0, 0, none, 0, 0, rfl, Nat.le_refl _, Nat.le_refl _, RdList.nil, RdList.nil⟩
theorem rdSigned0 : RdSigned w A sgnC sgn0 := ⟨sigC, rfl, rdSig0⟩
theorem rdQC0 : RdQC w A qcC qc0 := ⟨none, 0, 0, rfl, Nat.le_refl _, RdList.nil⟩
theorem rdTC0 : RdTC w A tcC tc0 := ⟨none, 0, 0, rfl, Nat.le_refl _, RdList.nil⟩
theorem rdBlock0 : RdBlock w A blkC blk0 := ⟨qcC, none, 0, 0, none, 0, 0, rfl, rdQC0, Nat.le_refl _, RdList.nil, Nat.le_refl _, RdList.nil⟩
end zero
def voteC : List Value := i0 :: i0 :: (dc dig0 ++ sgnC)
def tmoC : List Value := i0 :: i0 :: (qcC ++ (tcC ++ sgnC))
def propC : List Value := blkC ++ (tcC ++ sgnC)
def chgC : List Value := [blkC, blkC, blkC].flatten ++ qcC
section zero2
variable {w : World} {A : Nat → Prop}
theorem rdVote0 : RdVote w A voteC ⟨0, 0, dig0, sgn0⟩ := ⟨sgnC, rfl, rdSigned0⟩
theorem rdTmo0 : RdTmo w A tmoC ⟨0, 0, qc0, tc0, sgn0⟩ := ⟨qcC, tcC, sgnC, rfl, rdQC0, rdTC0, rdSigned0⟩
theorem rdProp0 : RdProp w A propC ⟨blk0, tc0, sgn0⟩ := ⟨blkC, tcC, sgnC, rfl, rdBlock0, rdTC0, rdSigned0⟩
theorem rdChg0 : RdChg w A chgC chg0 := ⟨[blkC, blkC, blkC], qcC, rfl, (by intro x hx; simp only [List.mem_cons, List.not_mem_nil, or_false, or_self] at hx; subst hx; exact (rdBlock0 (w := w) (A := A)).len), rfl, rfl,
    (by intro i x b h1 h2
        have hx : x = blkC := by
          have := List.mem_of_getElem? h1
          simp only [List.mem_cons, List.not_mem_nil, or_false, or_self] at this; exact this
        have hb : b = blk0 := by
          have := List.mem_of_getElem? h2
          simp only [chg0, List.mem_cons, List.not_mem_nil, or_false, or_self] at this; exact this
        subst hx; subst hb; exact rdBlock0), rdQC0⟩
end zero2
def msgOf (k : Int) (a b : Dig) : Msg := { msg0 k with wantFrom := a, wantBlock := b }
def msgC (k : Int) (a b : Dig) : List Value := .int .i64 k :: (voteC ++ (tmoC ++ (propC ++ (dc a ++ (dc b ++ (blkC ++ chgC))))))
theorem rdMsgOf {w : World} {A : Nat → Prop} (k : Int) (a b : Dig) : RdMsg w A (msgC k a b) (msgOf k a b) := ⟨_, _, _, _, _, rfl, rdVote0, rdTmo0, rdProp0, rdBlock0, rdChg0⟩
end Go.Proofs.YtkgbbnhdioghmaaDoor
