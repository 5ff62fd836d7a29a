/- Plain words: the hash of an empty slot isn't zero: SHA-256's rounds in natural numbers. -/
import Derived.Test.YtffkjjakceojfaaDoorPlT
import Derived.Test.YtffkjjakceojfaaDoorPlS
namespace Go.Proofs.YtffkjjakceojfaaDoor
open Go
set_option linter.unusedVariables false
set_option linter.unusedSimpArgs false
namespace ZN
def M : Nat := 4294967296
def rot (x n : Nat) : Nat := (x <<< (32 - n)) % M ||| x >>> n
def s0 (x : Nat) : Nat := rot x 7 ^^^ rot x 18 ^^^ x >>> 3
def s1 (x : Nat) : Nat := rot x 17 ^^^ rot x 19 ^^^ x >>> 10
/-- The schedule, newest first. -/
def step (l : List Nat) : List Nat := ((((l.getD 15 0 + s0 (l.getD 14 0)) % M + l.getD 6 0) % M + s1 (l.getD 1 0)) % M) :: l
def rounds : List Nat → List Nat → Nat → Nat → Nat → Nat → Nat → Nat → Nat → Nat → Nat
  | k :: ks, w :: ws, a, b, c, d, e, f, g, h =>
    let one := ((((h + (rot e 6 ^^^ rot e 11 ^^^ rot e 25)) % M + ((e &&& f) ^^^ ((4294967295 - e) &&& g))) % M + k) % M + w) % M
    let two := ((rot a 2 ^^^ rot a 13 ^^^ rot a 22) + (((a &&& b) ^^^ (a &&& c)) ^^^ (b &&& c))) % M
    rounds ks ws ((one + two) % M) a b c ((d + one) % M) e f g
  | _, _, a, _, _, _, _, _, _, _ => a
end ZN
theorem rotr_nat {x : UInt32} {n : Nat} (h1 : 1 ≤ n) (h2 : n ≤ 31) : (rotr x n).toNat = ZN.rot x.toNat n := by
  have e1 : (UInt32.ofNat (32 - n)).toNat % 32 = 32 - n := by rw [UInt32.toNat_ofNat']; omega
  have e2 : (UInt32.ofNat n).toNat % 32 = n := by rw [UInt32.toNat_ofNat']; omega
  rw [rotr, UInt32.toNat_or, UInt32.toNat_shiftLeft, UInt32.toNat_shiftRight, e1, e2]; rfl
theorem sg0_nat (x : UInt32) : (sg0 x).toNat = ZN.s0 x.toNat := by
  rw [sg0, UInt32.toNat_xor, UInt32.toNat_xor, rotr_nat (by decide) (by decide), rotr_nat (by decide) (by decide), UInt32.toNat_shiftRight]; rfl
theorem sg1_nat (x : UInt32) : (sg1 x).toNat = ZN.s1 x.toNat := by
  rw [sg1, UInt32.toNat_xor, UInt32.toNat_xor, rotr_nat (by decide) (by decide), rotr_nat (by decide) (by decide), UInt32.toNat_shiftRight]; rfl
/-- The first k words, newest first. -/
def schs (b : List UInt8) (k : Nat) : List Nat := ((List.range k).map fun i => (sch b i).toNat).reverse
theorem schs_get {b : List UInt8} {k i : Nat} (h : i < k) : (schs b k).getD i 0 = (sch b (k - 1 - i)).toNat := by
  have hl : i < (schs b k).length := by simp [schs]; exact h
  rw [List.getD, List.getElem?_eq_getElem hl, Option.getD_some]
  simp [schs]
theorem schs_succ {b : List UInt8} {k : Nat} (h : 16 ≤ k) : schs b (k + 1) = ZN.step (schs b k) := by
  have e : schs b (k + 1) = (sch b k).toNat :: schs b k := by simp [schs, List.range_succ]
  rw [e, ZN.step, schs_get (by omega), schs_get (by omega), schs_get (by omega), schs_get (by omega), sch_hi h, UInt32.toNat_add, UInt32.toNat_add, UInt32.toNat_add, sg0_nat, sg1_nat]
  rw [show k - 1 - 15 = k - 16 by omega, show k - 1 - 14 = k - 15 by omega, show k - 1 - 6 = k - 7 by omega, show k - 1 - 1 = k - 2 by omega]
  rfl
theorem schs_from {b : List UInt8} : ∀ n, schs b (16 + n) = (Nat.rec (schs b 16) (fun _ l => ZN.step l) n : List Nat)
  | 0 => rfl
  | n + 1 => by rw [show 16 + (n + 1) = (16 + n) + 1 by omega, schs_succ (by omega), schs_from n]
theorem rnds_nat (K W : Nat → UInt32) : ∀ (n j : Nat) (v : V8), (rnds (fun i => K (i + j)) (fun i => W (i + j)) v n).a.toNat = ZN.rounds ((List.range n).map fun i => (K (i + j)).toNat) ((List.range n).map fun i => (W (i + j)).toNat) v.a.toNat v.b.toNat v.c.toNat v.d.toNat v.e.toNat v.f.toNat v.g.toNat v.h.toNat
  | 0, j, v => rfl
  | n + 1, j, v => by
    have hr : ∀ (K W : Nat → UInt32) (v : V8) (n : Nat), rnds K W v (n + 1) = rnds (fun i => K (i + 1)) (fun i => W (i + 1)) (rnd (K 0) (W 0) v) n := by
      intro K W v n
      induction n with
      | zero => rfl
      | succ n ih => rw [rnds, ih]; rfl
    rw [hr]
    have ih := rnds_nat K W n (j + 1) (rnd (K (0 + j)) (W (0 + j)) v)
    have ef : ∀ f : Nat → UInt32, (fun i => f (i + 1 + j)) = fun i => f (i + (j + 1)) := fun f => by funext i; congr 1; omega
    rw [ef K, ef W, ih, List.range_succ_eq_map]
    simp only [List.map_cons, List.map_map, Function.comp_def, ZN.rounds]
    have e0 : ∀ f : Nat → UInt32, (fun x => (f (Nat.succ x + j)).toNat) = fun x => (f (x + (j + 1))).toNat := fun f => by funext i; congr 2; omega
    rw [e0 K, e0 W]
    simp only [rnd, UInt32.toNat_add, UInt32.toNat_xor, UInt32.toNat_and, UInt32.toNat_not, rotr_nat (show 1 ≤ 6 by decide) (by decide), rotr_nat (show 1 ≤ 11 by decide) (by decide), rotr_nat (show 1 ≤ 25 by decide) (by decide), rotr_nat (show 1 ≤ 2 by decide) (by decide), rotr_nat (show 1 ≤ 13 by decide) (by decide), rotr_nat (show 1 ≤ 22 by decide) (by decide)]
    rfl
def zW : List Nat := ((List.range 16).map fun i => (wordAt (refPad (framed 5 [body7 0 []])) i).toNat).reverse
def zA : Nat := ZN.rounds (kc.map UInt32.toNat) (Nat.rec zW (fun _ l => ZN.step l) 48 : List Nat).reverse 1779033703 3144134277 1013904242 2773480762 1359893119 2600822924 528734635 1541459225
theorem zA_big : ((zA + 1779033703) % 4294967296) / 16777216 ≠ 0 := by
  have h : Nat.beq (((zA + 1779033703) % 4294967296) / 16777216) 0 = false := by kernel_rfl
  intro e
  rw [e] at h
  cases h
theorem zero_byte : (sum7 0 []).getD 0 0 ≠ 0 := by
  let a := refPad (framed 5 [body7 0 []])
  have hlen : a.length = 64 := by kernel_rfl
  have e1 : takes Kc v0 a = (take64 Kc v0 a, []) := by
    rw [takes.eq_1, dif_pos (by omega), List.take_of_length_le (by omega), List.drop_eq_nil_of_le (by omega), takes.eq_1, dif_neg (by simp)]
  have e2 : (sum7 0 []).getD 0 0 = outByte (take64 Kc v0 a) 0 := by
    have : sum7 0 [] = ((List.range 32).map (outByte (takes Kc v0 a).1)).take 16 := hOf_ref Kc 5 [body7 0 []]
    rw [this, e1]
    rfl
  have h16 : schs a 16 = zW := by
    unfold schs zW
    congr 1
    refine List.map_congr_left fun i hi => ?_
    rw [sch_lo (List.mem_range.1 hi)]
  have e3 : (rnds Kc (sch a) v0 64).a.toNat = zA := by
    have h := rnds_nat Kc (sch a) 64 0 v0
    simp only [Nat.add_zero] at h
    rw [h]
    have hk : (List.range 64).map (fun i => (Kc i).toNat) = kc.map UInt32.toNat := by kernel_rfl
    have hw : (List.range 64).map (fun i => (sch a i).toNat) = (Nat.rec zW (fun _ l => ZN.step l) 48 : List Nat).reverse := by
      have h64 : (Nat.rec zW (fun _ l => ZN.step l) 48 : List Nat) = schs a 64 := h16 ▸ (schs_from (b := a) 48).symm
      rw [h64]
      simp only [schs, List.reverse_reverse]
    rw [hk, hw]
    rfl
  have e4 : (take64 Kc v0 a).a.toNat = (zA + 1779033703) % 4294967296 := by
    show (v0.a + (rnds Kc (sch a) v0 64).a).toNat = _
    rw [UInt32.toNat_add, e3]
    generalize zA = z
    show (1779033703 + z) % 4294967296 = (z + 1779033703) % 4294967296
    rw [Nat.add_comm]
  rw [e2]
  intro h
  have h2 := congrArg UInt8.toNat h
  have h3 : (outByte (take64 Kc v0 a) 0).toNat = (take64 Kc v0 a).a.toNat / 16777216 := by
    show (((take64 Kc v0 a).a >>> UInt32.ofNat 24).toUInt8).toNat = _
    have hlt := (take64 Kc v0 a).a.toNat_lt
    rw [UInt32.toNat_toUInt8, UInt32.toNat_shiftRight]
    have : (UInt32.ofNat 24).toNat % 32 = 24 := by decide
    rw [this, Nat.shiftRight_eq_div_pow]
    omega
  rw [h3, e4] at h2
  exact zA_big h2
theorem rd_zero0 : rdSlot sec0 0 = none := by
  cases h : rdSlot sec0 0 with
  | none => rfl
  | some x =>
    obtain ⟨c, r⟩ := x
    obtain ⟨h1, h2, h3, _, h5, h6, _⟩ := rdSlot_some h
    have hc : c = 0 := by rw [h1]; simp [cntS, sec0, valN]
    have hr : r = [] := by rw [h2, recS]; simp [lenS, sec0]
    subst hc; subst hr
    have h7 := congrArg (fun s : Sec => s.l.getD 40 0) h6
    have h8 : sec0.l.getD 40 0 = 0 := by kernel_rfl
    have h9 : (slotS (0 : Nat) []).l.getD 40 0 = (sum7 0 []).getD 0 0 := by
      show (slotL (mx0 0) ([] : List UInt8)).getD 40 0 = _
      rw [slotL, List.getD, List.getElem?_append_right (by rw [body7_len (by simp)]; omega), body7_len (by simp), List.getElem?_append_left (by rw [sum7_len]; omega)]
      rfl
    simp only [h8, h9] at h7
    exact absurd h7 zero_byte
theorem rd_zero (p : Nat) (hp : p < 2) : rdSlot sec0 p = none := by
  rcases (show p = 0 ∨ p = 1 by omega) with rfl | rfl
  · exact rd_zero0
  · exact rd_zero1
end Go.Proofs.YtffkjjakceojfaaDoor
