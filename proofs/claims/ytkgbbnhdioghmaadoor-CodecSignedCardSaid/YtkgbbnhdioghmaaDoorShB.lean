/- The shell, part B: the kinds of layer 9, opened. -/
import Derived.Test.YtkgbbnhdioghmaaDoorTy
import Derived.Test.YtkgbbnhdioghmaaDoorShA
namespace Go.Proofs.YtkgbbnhdioghmaaDoor
open Go
set_option linter.unusedVariables false
section
variable {H : Type} {enc : TypeId × Value → H} {w : World} {base : Nat} {sp : Nat → Bool} {held : Bool}
abbrev TT : Nat → Prop := fun _ => True
theorem o_int : Opens enc Tryd.prog w base sp held 3 (fun cs n => cs = [.int .i64 n]) := opens_int Ty.un_3
theorem o_dig : Opens enc Tryd.prog w base sp held 23 RdDig := opens_dig Ty.arr_23 Ty.un_5 Ty.sz_5 Ty.sz_23
theorem o_bytes : Opens enc Tryd.prog w base sp held 33 (RdBytes w TT) := opens_bytes Ty.sl_33 Ty.sz_5 Ty.un_5
theorem o_sig : Opens enc Tryd.prog w base sp held 47 (RdSig w TT) := fun fuel cs x h => by
  have hl := opens_lenT (i := 0) (f := 3) (o := 0) (s := 3) (by kernel_rfl) (by kernel_rfl) h
  obtain ⟨n0, h0⟩ := opens_fieldT (i := 0) (f := 3) (o := 0) (s := 1) (by kernel_rfl) (by kernel_rfl) o_int h
  obtain ⟨l1, a1, m1, c1, h1, k1, r1⟩ := opens_fieldT (i := 1) (f := 45) (o := 1) (s := 1) (by kernel_rfl) (by kernel_rfl) (opens_slice (s := 16) Ty.sl_45 Ty.sz_23 (by decide) o_dig) h
  obtain ⟨l2, a2, m2, c2, h2, k2, r2⟩ := opens_fieldT (i := 2) (f := 45) (o := 2) (s := 1) (by kernel_rfl) (by kernel_rfl) (opens_slice (s := 16) Ty.sl_45 Ty.sz_23 (by decide) o_dig) h
  have e0 := seg cs 0 1
  have e1 := seg cs 1 1
  have e2 := seg cs 2 1
  have ee := drop_all hl
  have e : cs = _ := (List.drop_zero (l := cs)).symm.trans e0
  simp only [Nat.reduceAdd, Nat.zero_add] at e e1 e2
  rw [h0, e1, h1, e2, h2, ee] at e
  exact ⟨⟨n0, l1, l2⟩, a1, m1, c1, a2, m2, c2, e, k1, k2, r1, r2⟩
theorem o_signed : Opens enc Tryd.prog w base sp held 49 (RdSigned w TT) := fun fuel cs x h => by
  have hl := opens_lenT (i := 0) (f := 3) (o := 0) (s := 4) (by kernel_rfl) (by kernel_rfl) h
  obtain ⟨n0, h0⟩ := opens_fieldT (i := 0) (f := 3) (o := 0) (s := 1) (by kernel_rfl) (by kernel_rfl) o_int h
  obtain ⟨s1, h1⟩ := opens_fieldT (i := 1) (f := 47) (o := 1) (s := 3) (by kernel_rfl) (by kernel_rfl) o_sig h
  have e0 := seg cs 0 1
  have e1 := seg cs 1 3
  have ee := drop_all hl
  have e : cs = _ := (List.drop_zero (l := cs)).symm.trans e0
  simp only [Nat.reduceAdd, Nat.zero_add] at e e1
  rw [h0, e1, ee, List.append_nil] at e
  exact ⟨⟨n0, s1⟩, _, e, h1⟩
theorem o_vdr : Opens enc Tryd.prog w base sp held 86 (RdVdr) := fun fuel cs x h => by
  have hl := opens_lenT (i := 0) (f := 23) (o := 0) (s := 17) (by kernel_rfl) (by kernel_rfl) h
  obtain ⟨d0, h0⟩ := opens_fieldT (i := 0) (f := 23) (o := 0) (s := 16) (by kernel_rfl) (by kernel_rfl) o_dig h
  obtain ⟨n1, h1⟩ := opens_fieldT (i := 1) (f := 3) (o := 16) (s := 1) (by kernel_rfl) (by kernel_rfl) o_int h
  have e0 := seg cs 0 16
  have e1 := seg cs 16 1
  have ee := drop_all hl
  have e : cs = _ := (List.drop_zero (l := cs)).symm.trans e0
  unfold RdDig at h0
  simp only [Nat.reduceAdd, Nat.zero_add] at e e1
  rw [h0, e1, h1, ee] at e
  exact ⟨⟨d0, n1⟩, e⟩
theorem o_qc : Opens enc Tryd.prog w base sp held 26 (RdQC w TT) := fun fuel cs x h => by
  have hl := opens_lenT (i := 0) (f := 3) (o := 0) (s := 19) (by kernel_rfl) (by kernel_rfl) h
  obtain ⟨n0, h0⟩ := opens_fieldT (i := 0) (f := 3) (o := 0) (s := 1) (by kernel_rfl) (by kernel_rfl) o_int h
  obtain ⟨n1, h1⟩ := opens_fieldT (i := 1) (f := 3) (o := 1) (s := 1) (by kernel_rfl) (by kernel_rfl) o_int h
  obtain ⟨d2, h2⟩ := opens_fieldT (i := 2) (f := 23) (o := 2) (s := 16) (by kernel_rfl) (by kernel_rfl) o_dig h
  obtain ⟨l3, a3, m3, c3, h3, k3, r3⟩ := opens_fieldT (i := 3) (f := 24) (o := 18) (s := 1) (by kernel_rfl) (by kernel_rfl) (opens_slice (s := 4) Ty.sl_24 Ty.sz_49 (by decide) o_signed) h
  have e0 := seg cs 0 1
  have e1 := seg cs 1 1
  have e2 := seg cs 2 16
  have e3 := seg cs 18 1
  have ee := drop_all hl
  have e : cs = _ := (List.drop_zero (l := cs)).symm.trans e0
  unfold RdDig at h2
  simp only [Nat.reduceAdd, Nat.zero_add] at e e1 e2 e3
  rw [h0, e1, h1, e2, h2, e3, h3, ee] at e
  exact ⟨⟨n0, n1, d2, l3⟩, a3, m3, c3, e, k3, r3⟩
theorem o_block : Opens enc Tryd.prog w base sp held 30 (RdBlock w TT) := fun fuel cs x h => by
  have hl := opens_lenT (i := 0) (f := 3) (o := 0) (s := 39) (by kernel_rfl) (by kernel_rfl) h
  obtain ⟨n0, h0⟩ := opens_fieldT (i := 0) (f := 3) (o := 0) (s := 1) (by kernel_rfl) (by kernel_rfl) o_int h
  obtain ⟨n1, h1⟩ := opens_fieldT (i := 1) (f := 3) (o := 1) (s := 1) (by kernel_rfl) (by kernel_rfl) o_int h
  obtain ⟨d2, h2⟩ := opens_fieldT (i := 2) (f := 23) (o := 2) (s := 16) (by kernel_rfl) (by kernel_rfl) o_dig h
  obtain ⟨q3, h3⟩ := opens_fieldT (i := 3) (f := 26) (o := 18) (s := 19) (by kernel_rfl) (by kernel_rfl) o_qc h
  obtain ⟨l4, a4, m4, c4, h4, k4, r4⟩ := opens_fieldT (i := 4) (f := 27) (o := 37) (s := 1) (by kernel_rfl) (by kernel_rfl) (opens_slice (s := 1) Ty.sl_27 Ty.sz_33 (by decide) o_bytes) h
  obtain ⟨l5, a5, m5, c5, h5, k5, r5⟩ := opens_fieldT (i := 5) (f := 28) (o := 38) (s := 1) (by kernel_rfl) (by kernel_rfl) (opens_slice (s := 17) Ty.sl_28 Ty.sz_86 (by decide) o_vdr) h
  have e0 := seg cs 0 1
  have e1 := seg cs 1 1
  have e2 := seg cs 2 16
  have e3 := seg cs 18 19
  have e4 := seg cs 37 1
  have e5 := seg cs 38 1
  have ee := drop_all hl
  have e : cs = _ := (List.drop_zero (l := cs)).symm.trans e0
  unfold RdDig at h2
  simp only [Nat.reduceAdd, Nat.zero_add] at e e1 e2 e3 e4 e5
  rw [h0, e1, h1, e2, h2, e3, e4, h4, e5, h5, ee] at e
  exact ⟨⟨n0, n1, d2, q3, l4, l5⟩, _, a4, m4, c4, a5, m5, c5, e, h3, k4, r4, k5, r5⟩
end
end Go.Proofs.YtkgbbnhdioghmaaDoor
