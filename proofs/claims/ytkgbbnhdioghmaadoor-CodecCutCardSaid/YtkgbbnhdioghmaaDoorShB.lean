/- The shell, part B: the kinds of layer 9, opened. -/
import Derived.Test.YtkgbbnhdioghmaaDoorTy
import Derived.Test.YtkgbbnhdioghmaaDoorShA
namespace Go.Proofs.YtkgbbnhdioghmaaDoor
open Go
set_option linter.unusedVariables false
set_option linter.unusedSimpArgs false
section
variable {H : Type} {enc : TypeId × Value → H} {w : World} {base : Nat} {sp : Nat → Bool} {held : Bool}
abbrev TT : Nat → Prop := fun _ => True
theorem o_int : Opens enc Tryd.prog w base sp held 3 (fun cs n => cs = [.int .i64 n]) := opens_int Ty.un_3
theorem o_dig : Opens enc Tryd.prog w base sp held 23 RdDig := opens_dig Ty.arr_23 Ty.un_5 Ty.sz_5 Ty.sz_23
theorem opens_arr3 {α : Type} {rd : List Value → α → Prop} {P : Program} {T e : TypeId} {s : Nat} (ht : arrT P T = some (3, e)) (hs : szT P e = some s) (hsT : szT P T = some (3 * s)) (he : Opens enc P w base sp held e rd) :
    Opens enc P w base sp held T (fun cs (l : List α) => ∃ css : List (List Value), cs = css.flatten ∧ (∀ c ∈ css, c.length = s) ∧ css.length = 3 ∧ l.length = 3 ∧ ∀ (i : Nat) (c : List Value) (x : α), css[i]? = some c → l[i]? = some x → rd c x) := fun fuel cs x h => by
  obtain ⟨xs, m, rfl, rfl, hl, hx, hi⟩ := DataW.trod_array (run_arrT ht) h
  rw [cellsOf_sz hsT] at hl
  have hb : ∀ i, i < 3 → ∃ o, rd ((cs.drop (i * s)).take s) o := fun i hi3 => by
    have h1 := hi i hi3
    rw [cellsOf_sz hs, List.getElem?_eq_getElem (by omega)] at h1
    exact he _ _ _ h1
  obtain ⟨o0, h0⟩ := hb 0 (by decide)
  obtain ⟨o1, h1⟩ := hb 1 (by decide)
  obtain ⟨o2, h2⟩ := hb 2 (by decide)
  refine ⟨[o0, o1, o2], [(cs.drop (0 * s)).take s, (cs.drop (1 * s)).take s, (cs.drop (2 * s)).take s], ?_, ?_, rfl, rfl, ?_⟩
  · have e0 := seg cs (0 * s) s
    have e1 := seg cs (0 * s + s) s
    have e2 := seg cs (0 * s + s + s) s
    have e3 : cs.drop (0 * s + s + s + s) = [] := drop_all (by omega)
    rw [e1, e2, e3, show 0 * s = 0 by omega, List.drop_zero] at e0
    simp only [List.flatten_cons, List.flatten_nil]
    rw [show 0 * s = 0 by omega, show 1 * s = 0 + s by omega, show 2 * s = 0 + s + s by omega]
    exact e0
  · intro c hc
    simp only [List.mem_cons, List.not_mem_nil, or_false] at hc
    rcases hc with rfl | rfl | rfl <;> (rw [List.length_take, List.length_drop]; omega)
  · intro i c x hc hx
    rcases i with _ | _ | _ | i
    · simp at hc hx; subst hx; subst hc; simpa using h0
    · simp at hc hx; subst hx; subst hc; simpa using h1
    · simp at hc hx; subst hx; subst hc; exact h2
    · simp at hc
theorem o_bytes : Opens enc Tryd.prog w base sp held 33 (RdBytes w TT) := opens_bytes Ty.sl_33 Ty.sz_5 Ty.un_5
theorem o_sig : Opens enc Tryd.prog w base sp held 47 (RdSig w TT) := fun fuel cs x h => by
  have hl := opens_lenT (i := 0) (f := 3) (o := 0) (s := 3) (by kernel_rfl) (by kernel_rfl) h
  obtain ⟨n0, h0⟩ := opens_fieldT (i := 0) (f := 3) (o := 0) (s := 1) (by kernel_rfl) (by kernel_rfl) o_int h
  obtain ⟨l1, a1, m1, c1, h1, k1, r1⟩ := opens_fieldT (i := 1) (f := 45) (o := 1) (s := 1) (by kernel_rfl) (by kernel_rfl) (opens_slice (s := 16) Ty.sl_45 Ty.sz_23 (by decide) o_dig) h
  obtain ⟨l2, a2, m2, c2, h2, k2, r2⟩ := opens_fieldT (i := 2) (f := 45) (o := 2) (s := 1) (by kernel_rfl) (by kernel_rfl) (opens_slice (s := 16) Ty.sl_45 Ty.sz_23 (by decide) o_dig) h
  have e0 := seg cs 0 1
  have e1 := seg cs 1 1
  have e2 := seg cs 2 1
  have ee := drop_all hl
  have e : cs = _ := (List.drop_zero (l := cs)).symm.trans e0
  simp only [Nat.reduceAdd, Nat.zero_add] at e e1 e2
  rw [h0, e1, h1, e2, h2, ee] at e
  exact ⟨⟨n0, l1, l2⟩, a1, m1, c1, a2, m2, c2, e, k1, k2, r1, r2⟩
theorem o_signed : Opens enc Tryd.prog w base sp held 49 (RdSigned w TT) := fun fuel cs x h => by
  have hl := opens_lenT (i := 0) (f := 3) (o := 0) (s := 4) (by kernel_rfl) (by kernel_rfl) h
  obtain ⟨n0, h0⟩ := opens_fieldT (i := 0) (f := 3) (o := 0) (s := 1) (by kernel_rfl) (by kernel_rfl) o_int h
  obtain ⟨s1, h1⟩ := opens_fieldT (i := 1) (f := 47) (o := 1) (s := 3) (by kernel_rfl) (by kernel_rfl) o_sig h
  have e0 := seg cs 0 1
  have e1 := seg cs 1 3
  have ee := drop_all hl
  have e : cs = _ := (List.drop_zero (l := cs)).symm.trans e0
  simp only [Nat.reduceAdd, Nat.zero_add] at e e1
  rw [h0, e1, ee, List.append_nil] at e
  exact ⟨⟨n0, s1⟩, _, e, h1⟩
theorem o_vdr : Opens enc Tryd.prog w base sp held 86 (RdVdr) := fun fuel cs x h => by
  have hl := opens_lenT (i := 0) (f := 23) (o := 0) (s := 17) (by kernel_rfl) (by kernel_rfl) h
  obtain ⟨d0, h0⟩ := opens_fieldT (i := 0) (f := 23) (o := 0) (s := 16) (by kernel_rfl) (by kernel_rfl) o_dig h
  obtain ⟨n1, h1⟩ := opens_fieldT (i := 1) (f := 3) (o := 16) (s := 1) (by kernel_rfl) (by kernel_rfl) o_int h
  have e0 := seg cs 0 16
  have e1 := seg cs 16 1
  have ee := drop_all hl
  have e : cs = _ := (List.drop_zero (l := cs)).symm.trans e0
  unfold RdDig at h0
  simp only [Nat.reduceAdd, Nat.zero_add] at e e1
  rw [h0, e1, h1, ee] at e
  exact ⟨⟨d0, n1⟩, e⟩
theorem o_qc : Opens enc Tryd.prog w base sp held 26 (RdQC w TT) := fun fuel cs x h => by
  have hl := opens_lenT (i := 0) (f := 3) (o := 0) (s := 19) (by kernel_rfl) (by kernel_rfl) h
  obtain ⟨n0, h0⟩ := opens_fieldT (i := 0) (f := 3) (o := 0) (s := 1) (by kernel_rfl) (by kernel_rfl) o_int h
  obtain ⟨n1, h1⟩ := opens_fieldT (i := 1) (f := 3) (o := 1) (s := 1) (by kernel_rfl) (by kernel_rfl) o_int h
  obtain ⟨d2, h2⟩ := opens_fieldT (i := 2) (f := 23) (o := 2) (s := 16) (by kernel_rfl) (by kernel_rfl) o_dig h
  obtain ⟨l3, a3, m3, c3, h3, k3, r3⟩ := opens_fieldT (i := 3) (f := 24) (o := 18) (s := 1) (by kernel_rfl) (by kernel_rfl) (opens_slice (s := 4) Ty.sl_24 Ty.sz_49 (by decide) o_signed) h
  have e0 := seg cs 0 1
  have e1 := seg cs 1 1
  have e2 := seg cs 2 16
  have e3 := seg cs 18 1
  have ee := drop_all hl
  have e : cs = _ := (List.drop_zero (l := cs)).symm.trans e0
  unfold RdDig at h2
  simp only [Nat.reduceAdd, Nat.zero_add] at e e1 e2 e3
  rw [h0, e1, h1, e2, h2, e3, h3, ee] at e
  exact ⟨⟨n0, n1, d2, l3⟩, a3, m3, c3, e, k3, r3⟩
theorem o_block : Opens enc Tryd.prog w base sp held 30 (RdBlock w TT) := fun fuel cs x h => by
  have hl := opens_lenT (i := 0) (f := 3) (o := 0) (s := 39) (by kernel_rfl) (by kernel_rfl) h
  obtain ⟨n0, h0⟩ := opens_fieldT (i := 0) (f := 3) (o := 0) (s := 1) (by kernel_rfl) (by kernel_rfl) o_int h
  obtain ⟨n1, h1⟩ := opens_fieldT (i := 1) (f := 3) (o := 1) (s := 1) (by kernel_rfl) (by kernel_rfl) o_int h
  obtain ⟨d2, h2⟩ := opens_fieldT (i := 2) (f := 23) (o := 2) (s := 16) (by kernel_rfl) (by kernel_rfl) o_dig h
  obtain ⟨q3, h3⟩ := opens_fieldT (i := 3) (f := 26) (o := 18) (s := 19) (by kernel_rfl) (by kernel_rfl) o_qc h
  obtain ⟨l4, a4, m4, c4, h4, k4, r4⟩ := opens_fieldT (i := 4) (f := 27) (o := 37) (s := 1) (by kernel_rfl) (by kernel_rfl) (opens_slice (s := 1) Ty.sl_27 Ty.sz_33 (by decide) o_bytes) h
  obtain ⟨l5, a5, m5, c5, h5, k5, r5⟩ := opens_fieldT (i := 5) (f := 28) (o := 38) (s := 1) (by kernel_rfl) (by kernel_rfl) (opens_slice (s := 17) Ty.sl_28 Ty.sz_86 (by decide) o_vdr) h
  have e0 := seg cs 0 1
  have e1 := seg cs 1 1
  have e2 := seg cs 2 16
  have e3 := seg cs 18 19
  have e4 := seg cs 37 1
  have e5 := seg cs 38 1
  have ee := drop_all hl
  have e : cs = _ := (List.drop_zero (l := cs)).symm.trans e0
  unfold RdDig at h2
  simp only [Nat.reduceAdd, Nat.zero_add] at e e1 e2 e3 e4 e5
  rw [h0, e1, h1, e2, h2, e3, e4, h4, e5, h5, ee] at e
  exact ⟨⟨n0, n1, d2, q3, l4, l5⟩, _, a4, m4, c4, a5, m5, c5, e, h3, k4, r4, k5, r5⟩
theorem o_late : Opens enc Tryd.prog w base sp held 178 (RdLate w TT) := fun fuel cs x h => by
  have hl := opens_lenT (i := 0) (f := 3) (o := 0) (s := 5) (by kernel_rfl) (by kernel_rfl) h
  obtain ⟨n0, h0⟩ := opens_fieldT (i := 0) (f := 3) (o := 0) (s := 1) (by kernel_rfl) (by kernel_rfl) o_int h
  obtain ⟨n1, h1⟩ := opens_fieldT (i := 1) (f := 3) (o := 1) (s := 1) (by kernel_rfl) (by kernel_rfl) o_int h
  obtain ⟨s2, h2⟩ := opens_fieldT (i := 2) (f := 47) (o := 2) (s := 3) (by kernel_rfl) (by kernel_rfl) o_sig h
  have e0 := seg cs 0 1
  have e1 := seg cs 1 1
  have e2 := seg cs 2 3
  have ee := drop_all hl
  have e : cs = _ := (List.drop_zero (l := cs)).symm.trans e0
  simp only [Nat.reduceAdd, Nat.zero_add] at e e1 e2
  rw [h0, e1, h1, e2, ee, List.append_nil] at e
  exact ⟨⟨n0, n1, s2⟩, _, e, h2⟩
theorem o_tc : Opens enc Tryd.prog w base sp held 54 (RdTC w TT) := fun fuel cs x h => by
  have hl := opens_lenT (i := 0) (f := 3) (o := 0) (s := 3) (by kernel_rfl) (by kernel_rfl) h
  obtain ⟨n0, h0⟩ := opens_fieldT (i := 0) (f := 3) (o := 0) (s := 1) (by kernel_rfl) (by kernel_rfl) o_int h
  obtain ⟨n1, h1⟩ := opens_fieldT (i := 1) (f := 3) (o := 1) (s := 1) (by kernel_rfl) (by kernel_rfl) o_int h
  obtain ⟨l3, a3, m3, c3, h3, k3, r3⟩ := opens_fieldT (i := 2) (f := 52) (o := 2) (s := 1) (by kernel_rfl) (by kernel_rfl) (opens_slice (s := 5) Ty.sl_52 Ty.sz_178 (by decide) o_late) h
  have e0 := seg cs 0 1
  have e1 := seg cs 1 1
  have e2 := seg cs 2 1
  have ee := drop_all hl
  have e : cs = _ := (List.drop_zero (l := cs)).symm.trans e0
  simp only [Nat.reduceAdd, Nat.zero_add] at e e1 e2
  rw [h0, e1, h1, e2, h3, ee] at e
  exact ⟨⟨n0, n1, l3⟩, a3, m3, c3, e, k3, r3⟩
theorem o_vote : Opens enc Tryd.prog w base sp held 51 (RdVote w TT) := fun fuel cs x h => by
  have hl := opens_lenT (i := 0) (f := 3) (o := 0) (s := 22) (by kernel_rfl) (by kernel_rfl) h
  obtain ⟨n0, h0⟩ := opens_fieldT (i := 0) (f := 3) (o := 0) (s := 1) (by kernel_rfl) (by kernel_rfl) o_int h
  obtain ⟨n1, h1⟩ := opens_fieldT (i := 1) (f := 3) (o := 1) (s := 1) (by kernel_rfl) (by kernel_rfl) o_int h
  obtain ⟨d2, h2⟩ := opens_fieldT (i := 2) (f := 23) (o := 2) (s := 16) (by kernel_rfl) (by kernel_rfl) o_dig h
  obtain ⟨s3, h3⟩ := opens_fieldT (i := 3) (f := 49) (o := 18) (s := 4) (by kernel_rfl) (by kernel_rfl) o_signed h
  have e0 := seg cs 0 1
  have e1 := seg cs 1 1
  have e2 := seg cs 2 16
  have e3 := seg cs 18 4
  have ee := drop_all hl
  have e : cs = _ := (List.drop_zero (l := cs)).symm.trans e0
  unfold RdDig at h2
  simp only [Nat.reduceAdd, Nat.zero_add] at e e1 e2 e3
  rw [h0, e1, h1, e2, h2, e3, ee, List.append_nil] at e
  exact ⟨⟨n0, n1, d2, s3⟩, _, e, h3⟩
theorem o_tmo : Opens enc Tryd.prog w base sp held 56 (RdTmo w TT) := fun fuel cs x h => by
  have hl := opens_lenT (i := 0) (f := 3) (o := 0) (s := 28) (by kernel_rfl) (by kernel_rfl) h
  obtain ⟨n0, h0⟩ := opens_fieldT (i := 0) (f := 3) (o := 0) (s := 1) (by kernel_rfl) (by kernel_rfl) o_int h
  obtain ⟨n1, h1⟩ := opens_fieldT (i := 1) (f := 3) (o := 1) (s := 1) (by kernel_rfl) (by kernel_rfl) o_int h
  obtain ⟨q2, h2⟩ := opens_fieldT (i := 2) (f := 26) (o := 2) (s := 19) (by kernel_rfl) (by kernel_rfl) o_qc h
  obtain ⟨t3, h3⟩ := opens_fieldT (i := 3) (f := 54) (o := 21) (s := 3) (by kernel_rfl) (by kernel_rfl) o_tc h
  obtain ⟨s4, h4⟩ := opens_fieldT (i := 4) (f := 49) (o := 24) (s := 4) (by kernel_rfl) (by kernel_rfl) o_signed h
  have e0 := seg cs 0 1
  have e1 := seg cs 1 1
  have e2 := seg cs 2 19
  have e3 := seg cs 21 3
  have e4 := seg cs 24 4
  have ee := drop_all hl
  have e : cs = _ := (List.drop_zero (l := cs)).symm.trans e0
  simp only [Nat.reduceAdd, Nat.zero_add] at e e1 e2 e3 e4
  rw [h0, e1, h1, e2, e3, e4, ee, List.append_nil] at e
  exact ⟨⟨n0, n1, q2, t3, s4⟩, (cs.drop 2).take 19, (cs.drop 21).take 3, (cs.drop 24).take 4, e, h2, h3, h4⟩
theorem o_prop : Opens enc Tryd.prog w base sp held 58 (RdProp w TT) := fun fuel cs x h => by
  have hl := opens_lenT (i := 0) (f := 30) (o := 0) (s := 46) (by kernel_rfl) (by kernel_rfl) h
  obtain ⟨b0, h0⟩ := opens_fieldT (i := 0) (f := 30) (o := 0) (s := 39) (by kernel_rfl) (by kernel_rfl) o_block h
  obtain ⟨t1, h1⟩ := opens_fieldT (i := 1) (f := 54) (o := 39) (s := 3) (by kernel_rfl) (by kernel_rfl) o_tc h
  obtain ⟨s2, h2⟩ := opens_fieldT (i := 2) (f := 49) (o := 42) (s := 4) (by kernel_rfl) (by kernel_rfl) o_signed h
  have e0 := seg cs 0 39
  have e1 := seg cs 39 3
  have e2 := seg cs 42 4
  have ee := drop_all hl
  have e : cs = _ := (List.drop_zero (l := cs)).symm.trans e0
  simp only [Nat.reduceAdd, Nat.zero_add] at e e1 e2
  rw [e1, e2, ee, List.append_nil] at e
  exact ⟨⟨b0, t1, s2⟩, _, _, _, e, h0, h1, h2⟩
theorem o_want : Opens enc Tryd.prog w base sp held 60 (fun cs (d : Dig × Dig) => cs = dc d.1 ++ dc d.2) := fun fuel cs x h => by
  have hl := opens_lenT (i := 0) (f := 23) (o := 0) (s := 32) (by kernel_rfl) (by kernel_rfl) h
  obtain ⟨d0, h0⟩ := opens_fieldT (i := 0) (f := 23) (o := 0) (s := 16) (by kernel_rfl) (by kernel_rfl) o_dig h
  obtain ⟨d1, h1⟩ := opens_fieldT (i := 1) (f := 23) (o := 16) (s := 16) (by kernel_rfl) (by kernel_rfl) o_dig h
  have e0 := seg cs 0 16
  have e1 := seg cs 16 16
  have ee := drop_all hl
  have e : cs = _ := (List.drop_zero (l := cs)).symm.trans e0
  unfold RdDig at h0 h1
  simp only [Nat.reduceAdd, Nat.zero_add] at e e1
  rw [h0, e1, h1, ee, List.append_nil] at e
  exact ⟨(d0, d1), e⟩
theorem o_reply : Opens enc Tryd.prog w base sp held 62 (RdBlock w TT) := fun fuel cs x h => by
  have hl := opens_lenT (i := 0) (f := 30) (o := 0) (s := 39) (by kernel_rfl) (by kernel_rfl) h
  obtain ⟨b0, h0⟩ := opens_fieldT (i := 0) (f := 30) (o := 0) (s := 39) (by kernel_rfl) (by kernel_rfl) o_block h
  have e0 := seg cs 0 39
  have ee := drop_all hl
  have e : cs = _ := (List.drop_zero (l := cs)).symm.trans e0
  simp only [Nat.reduceAdd, Nat.zero_add] at e
  rw [ee, List.append_nil] at e
  rw [← e] at h0
  exact ⟨b0, h0⟩
theorem o_chg : Opens enc Tryd.prog w base sp held 65 (RdChg w TT) := fun fuel cs x h => by
  have hl := opens_lenT (i := 0) (f := 63) (o := 0) (s := 136) (by kernel_rfl) (by kernel_rfl) h
  obtain ⟨l0, css, h0, hc, hn, hl3, hx⟩ := opens_fieldT (i := 0) (f := 63) (o := 0) (s := 117) (by kernel_rfl) (by kernel_rfl) (opens_arr3 (s := 39) Ty.arr_63 Ty.sz_30 (by kernel_rfl) o_block) h
  obtain ⟨q1, h1⟩ := opens_fieldT (i := 1) (f := 26) (o := 117) (s := 19) (by kernel_rfl) (by kernel_rfl) o_qc h
  have e0 := seg cs 0 117
  have e1 := seg cs 117 19
  have ee := drop_all hl
  have e : cs = _ := (List.drop_zero (l := cs)).symm.trans e0
  simp only [Nat.reduceAdd, Nat.zero_add] at e e1
  rw [h0, e1, ee, List.append_nil] at e
  exact ⟨⟨l0, q1⟩, css, _, e, hc, hn, hl3, hx, h1⟩
theorem o_msg : Opens enc Tryd.prog w base sp held 67 (RdMsg w TT) := fun fuel cs x h => by
  have hl := opens_lenT (i := 0) (f := 3) (o := 0) (s := 304) (by kernel_rfl) (by kernel_rfl) h
  obtain ⟨n0, h0⟩ := opens_fieldT (i := 0) (f := 3) (o := 0) (s := 1) (by kernel_rfl) (by kernel_rfl) o_int h
  obtain ⟨v1, h1⟩ := opens_fieldT (i := 1) (f := 51) (o := 1) (s := 22) (by kernel_rfl) (by kernel_rfl) o_vote h
  obtain ⟨t2, h2⟩ := opens_fieldT (i := 2) (f := 56) (o := 23) (s := 28) (by kernel_rfl) (by kernel_rfl) o_tmo h
  obtain ⟨p3, h3⟩ := opens_fieldT (i := 3) (f := 58) (o := 51) (s := 46) (by kernel_rfl) (by kernel_rfl) o_prop h
  obtain ⟨⟨d4, d5⟩, h4⟩ := opens_fieldT (i := 4) (f := 60) (o := 97) (s := 32) (by kernel_rfl) (by kernel_rfl) o_want h
  obtain ⟨r5, h5⟩ := opens_fieldT (i := 5) (f := 62) (o := 129) (s := 39) (by kernel_rfl) (by kernel_rfl) o_reply h
  obtain ⟨c6, h6⟩ := opens_fieldT (i := 6) (f := 65) (o := 168) (s := 136) (by kernel_rfl) (by kernel_rfl) o_chg h
  have e0 := seg cs 0 1
  have e1 := seg cs 1 22
  have e2 := seg cs 23 28
  have e3 := seg cs 51 46
  have e4 := seg cs 97 32
  have e5 := seg cs 129 39
  have e6 := seg cs 168 136
  have ee := drop_all hl
  have e : cs = _ := (List.drop_zero (l := cs)).symm.trans e0
  replace h4 : _ = dc d4 ++ dc d5 := h4
  simp only [Nat.reduceAdd, Nat.zero_add] at e e1 e2 e3 e4 e5 e6
  rw [h0, e1, e2, e3, e4, h4, e5, e6, ee, List.append_nil, List.append_assoc (dc d4)] at e
  exact ⟨⟨n0, v1, t2, p3, d4, d5, r5, c6⟩, _, _, _, _, _, e, h1, h2, h3, h5, h6⟩
end
end Go.Proofs.YtkgbbnhdioghmaaDoor
