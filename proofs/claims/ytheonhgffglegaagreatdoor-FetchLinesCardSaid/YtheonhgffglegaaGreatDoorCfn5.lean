/- Part 5. What is proved: see the last part: for every input the law returns true, and the input reads as it did. -/
import Derived.Test.YtheonhgffglegaaGreatDoorCfn4
namespace Go.Proofs.YtheonhgffglegaaGreatDoor
open Go
set_option linter.unusedVariables false
set_option linter.unusedSimpArgs false
set_option linter.unusedSectionVars false
set_option maxHeartbeats 400000
section
def pk (f : Nat → Nat) : Nat → Nat
  | 0 => 0
  | L + 1 => f 0 + 2 ^ 64 * pk (fun i => f (i + 1)) L
theorem pk_congr {f g : Nat → Nat} : ∀ {L : Nat}, (∀ i, i < L → f i = g i) → pk f L = pk g L
  | 0, _ => rfl
  | L + 1, h => by unfold pk; rw [h 0 (by omega), pk_congr (fun i hi => h (i + 1) (by omega))]
theorem pk_add (f g : Nat → Nat) : ∀ L, pk f L + pk g L = pk (fun i => f i + g i) L
  | 0 => rfl
  | L + 1 => by unfold pk; rw [← pk_add (fun i => f (i + 1)) (fun i => g (i + 1)) L, Nat.mul_add]; omega
theorem pk_mul (c : Nat) (f : Nat → Nat) : ∀ L, c * pk f L = pk (fun i => c * f i) L
  | 0 => rfl
  | L + 1 => by unfold pk; rw [← pk_mul c (fun i => f (i + 1)) L, Nat.mul_add, Nat.mul_left_comm]
theorem tb_split {a A : Nat} (h : a < 2 ^ 64) (j : Nat) : (a + 2 ^ 64 * A).testBit j = if j < 64 then a.testBit j else A.testBit (j - 64) := by
  rw [Nat.add_comm]; exact Nat.testBit_two_pow_mul_add A h j
theorem and_lt64 {a b : Nat} (h : a < 2 ^ 64) : a &&& b < 2 ^ 64 := Nat.lt_of_le_of_lt Nat.and_le_left h
theorem andq_split {a b A B : Nat} (ha : a < 2 ^ 64) (hb : b < 2 ^ 64) : (a + 2 ^ 64 * A) &&& (b + 2 ^ 64 * B) = (a &&& b) + 2 ^ 64 * (A &&& B) := by
  apply Nat.eq_of_testBit_eq; intro j
  rw [Nat.testBit_and, tb_split ha, tb_split hb, tb_split (and_lt64 ha)]
  split <;> simp [Nat.testBit_and]
theorem orq_split {a b A B : Nat} (ha : a < 2 ^ 64) (hb : b < 2 ^ 64) : (a + 2 ^ 64 * A) ||| (b + 2 ^ 64 * B) = (a ||| b) + 2 ^ 64 * (A ||| B) := by
  apply Nat.eq_of_testBit_eq; intro j
  rw [Nat.testBit_or, tb_split ha, tb_split hb, tb_split (Nat.or_lt_two_pow ha hb)]
  split <;> simp [Nat.testBit_or]
theorem xorq_split {a b A B : Nat} (ha : a < 2 ^ 64) (hb : b < 2 ^ 64) : (a + 2 ^ 64 * A) ^^^ (b + 2 ^ 64 * B) = (a ^^^ b) + 2 ^ 64 * (A ^^^ B) := by
  apply Nat.eq_of_testBit_eq; intro j
  rw [Nat.testBit_xor, tb_split ha, tb_split hb, tb_split (Nat.xor_lt_two_pow ha hb)]
  split <;> simp [Nat.testBit_xor]
theorem pk_and : ∀ {L : Nat} {f g : Nat → Nat}, (∀ i, f i < 2 ^ 64) → (∀ i, g i < 2 ^ 64) → pk f L &&& pk g L = pk (fun i => f i &&& g i) L
  | 0, _, _, _, _ => by simp [pk]
  | L + 1, f, g, hf, hg => by unfold pk; rw [andq_split (hf 0) (hg 0), pk_and (fun i => hf (i + 1)) (fun i => hg (i + 1))]
theorem pk_or : ∀ {L : Nat} {f g : Nat → Nat}, (∀ i, f i < 2 ^ 64) → (∀ i, g i < 2 ^ 64) → pk f L ||| pk g L = pk (fun i => f i ||| g i) L
  | 0, _, _, _, _ => by simp [pk]
  | L + 1, f, g, hf, hg => by unfold pk; rw [orq_split (hf 0) (hg 0), pk_or (fun i => hf (i + 1)) (fun i => hg (i + 1))]
theorem pk_xor : ∀ {L : Nat} {f g : Nat → Nat}, (∀ i, f i < 2 ^ 64) → (∀ i, g i < 2 ^ 64) → pk f L ^^^ pk g L = pk (fun i => f i ^^^ g i) L
  | 0, _, _, _, _ => by simp [pk]
  | L + 1, f, g, hf, hg => by unfold pk; rw [xorq_split (hf 0) (hg 0), pk_xor (fun i => hf (i + 1)) (fun i => hg (i + 1))]
def lmask (L : Nat) : Nat := pk (fun _ => 4294967295) L
theorem pk_mask {L : Nat} {f : Nat → Nat} (h : ∀ i, f i < 2 ^ 64) : pk f L &&& lmask L = pk (fun i => f i % 2 ^ 32) L := by
  unfold lmask
  rw [pk_and h (fun _ => by decide)]
  exact pk_congr fun i _ => Nat.and_two_pow_sub_one_eq_mod (f i) 32
theorem shr_mask {n : Nat} (hn : n < 32) : ∀ {L : Nat} {f : Nat → Nat}, (∀ i, f i < 2 ^ 32) → (pk f L >>> n) &&& lmask L = pk (fun i => f i >>> n) L
  | 0, _, _ => by simp [pk, lmask]
  | L + 1, f, h => by
    have ih := shr_mask hn (L := L) (f := fun i => f (i + 1)) (fun i => h (i + 1))
    unfold lmask at ih ⊢
    apply Nat.eq_of_testBit_eq; intro j
    have h0 := h 0
    have h64 : f 0 < 2 ^ 64 := Nat.lt_trans h0 (by decide)
    have hs : f 0 >>> n < 2 ^ 64 := Nat.lt_of_le_of_lt (Nat.shiftRight_le _ _) h64
    have ih' := congrArg (fun x => Nat.testBit x (j - 64)) ih
    simp only [Nat.testBit_and, Nat.testBit_shiftRight] at ih'
    unfold pk
    rw [Nat.testBit_and, Nat.testBit_shiftRight, tb_split h64, tb_split (by decide), tb_split hs]
    by_cases hj : j < 64
    · rw [if_pos hj, if_pos hj]
      by_cases hj2 : n + j < 64
      · rw [if_pos hj2, Nat.testBit_shiftRight]
        by_cases hj3 : j < 32
        · rw [show (4294967295 : Nat) = 2 ^ 32 - 1 from rfl, Nat.testBit_two_pow_sub_one]; simp [hj3]
        · rw [show (4294967295 : Nat) = 2 ^ 32 - 1 from rfl, Nat.testBit_two_pow_sub_one]
          have : (f 0).testBit (n + j) = false := Nat.testBit_lt_two_pow (Nat.lt_of_lt_of_le h0 (Nat.pow_le_pow_right (by decide) (by omega)))
          simp [hj3, this]
      · rw [if_neg hj2, show (4294967295 : Nat) = 2 ^ 32 - 1 from rfl, Nat.testBit_two_pow_sub_one, Nat.testBit_shiftRight]
        have : (f 0).testBit (n + j) = false := Nat.testBit_lt_two_pow (Nat.lt_of_lt_of_le h0 (Nat.pow_le_pow_right (by decide) (by omega)))
        simp [show ¬ j < 32 by omega, this]
    · rw [if_neg hj, if_neg hj, if_neg (by omega), show n + j - 64 = n + (j - 64) by omega]
      exact ih'
def pw (u : Nat → UInt32) (L : Nat) : Nat := pk (fun i => (u i).toNat) L
theorem u32_lt (x : UInt32) : x.toNat < 2 ^ 32 := x.toNat_lt
theorem u32_lt64 (x : UInt32) : x.toNat < 2 ^ 64 := Nat.lt_trans x.toNat_lt (by decide)
theorem pw_and (u v : Nat → UInt32) (L : Nat) : pw u L &&& pw v L = pw (fun i => u i &&& v i) L := by
  unfold pw; rw [pk_and (fun i => u32_lt64 _) (fun i => u32_lt64 _)]; exact pk_congr fun i _ => (UInt32.toNat_and _ _).symm
theorem pw_xor (u v : Nat → UInt32) (L : Nat) : pw u L ^^^ pw v L = pw (fun i => u i ^^^ v i) L := by
  unfold pw; rw [pk_xor (fun i => u32_lt64 _) (fun i => u32_lt64 _)]; exact pk_congr fun i _ => (UInt32.toNat_xor _ _).symm
theorem pw_not (u : Nat → UInt32) (L : Nat) : lmask L ^^^ pw u L = pw (fun i => ~~~ u i) L := by
  have h : lmask L = pw (fun _ => (4294967295 : UInt32)) L := rfl
  rw [h, pw_xor]
  refine pk_congr fun i _ => ?_
  congr 1
def qsh (M x n : Nat) : Nat := (x >>> n) &&& M
def qrot (M x n : Nat) : Nat := ((x >>> n) ||| (x <<< (32 - n))) &&& M
theorem pw_shr {n : Nat} (hn : n < 32) (u : Nat → UInt32) (L : Nat) : qsh (lmask L) (pw u L) n = pw (fun i => u i >>> UInt32.ofNat n) L := by
  unfold qsh pw
  rw [shr_mask hn (fun i => u32_lt _)]
  refine pk_congr fun i _ => ?_
  rw [UInt32.toNat_shiftRight]
  have : (UInt32.ofNat n).toNat = n := by rw [UInt32.toNat_ofNat']; exact Nat.mod_eq_of_lt (by omega)
  rw [this, Nat.mod_eq_of_lt hn]
theorem pw_rot {n : Nat} (h1 : 0 < n) (hn : n < 32) (u : Nat → UInt32) (L : Nat) : qrot (lmask L) (pw u L) n = pw (fun i => rotr (u i) n) L := by
  unfold qrot
  rw [Nat.and_or_distrib_right]
  have e1 := pw_shr hn u L
  unfold qsh at e1
  rw [e1]
  have e2 : (pw u L <<< (32 - n)) &&& lmask L = pw (fun i => u i <<< UInt32.ofNat (32 - n)) L := by
    unfold pw
    rw [Nat.shiftLeft_eq, Nat.mul_comm, pk_mul, pk_mask]
    · refine pk_congr fun i _ => ?_
      rw [UInt32.toNat_shiftLeft]
      have : (UInt32.ofNat (32 - n)).toNat = 32 - n := by rw [UInt32.toNat_ofNat']; exact Nat.mod_eq_of_lt (by omega)
      rw [this, Nat.mod_eq_of_lt (show 32 - n < 32 by omega), Nat.shiftLeft_eq, Nat.mul_comm]
    · intro i
      have := u32_lt (u i)
      calc 2 ^ (32 - n) * (u i).toNat < 2 ^ (32 - n) * 2 ^ 32 := Nat.mul_lt_mul_of_pos_left this (Nat.pow_pos (by decide))
        _ = 2 ^ (32 - n + 32) := (Nat.pow_add ..).symm
        _ ≤ 2 ^ 64 := Nat.pow_le_pow_right (by decide) (by omega)
  rw [e2]
  unfold pw
  rw [pk_or (fun i => u32_lt64 _) (fun i => u32_lt64 _)]
  refine pk_congr fun i _ => ?_
  show _ = (u i <<< UInt32.ofNat (32 - n) ||| u i >>> UInt32.ofNat n).toNat
  rw [UInt32.toNat_or, Nat.or_comm]
theorem pw_of {L : Nat} {f : Nat → Nat} {u : Nat → UInt32} (hf : ∀ i, f i < 2 ^ 64) (h : ∀ i, f i % 2 ^ 32 = (u i).toNat) : pk f L &&& lmask L = pw u L := by
  rw [pk_mask hf]; exact pk_congr fun i _ => h i
theorem pw_const (c : UInt32) (L : Nat) : c.toNat * pk (fun _ => 1) L = pw (fun _ => c) L := by
  rw [pk_mul]; exact pk_congr fun i _ => Nat.mul_one _
theorem pk_pw (u : Nat → UInt32) (L : Nat) : pw u L = pk (fun i => (u i).toNat) L := rfl
def fc {α : Type} (x : Nat) (k : Nat → α) : α := match x with
  | 0 => k 0
  | n + 1 => k (n + 1)
theorem fc_eq {α : Type} (x : Nat) (k : Nat → α) : fc x k = k x := by cases x <;> rfl
def qs0 (M x : Nat) : Nat := qrot M x 7 ^^^ qrot M x 18 ^^^ qsh M x 3
def qs1 (M x : Nat) : Nat := qrot M x 17 ^^^ qrot M x 19 ^^^ qsh M x 10
theorem pw_sg0 (u : Nat → UInt32) (L : Nat) : qs0 (lmask L) (pw u L) = pw (fun i => sg0 (u i)) L := by
  unfold qs0; rw [pw_rot (by decide) (by decide), pw_rot (by decide) (by decide), pw_shr (by decide), pw_xor, pw_xor]; rfl
theorem pw_sg1 (u : Nat → UInt32) (L : Nat) : qs1 (lmask L) (pw u L) = pw (fun i => sg1 (u i)) L := by
  unfold qs1; rw [pw_rot (by decide) (by decide), pw_rot (by decide) (by decide), pw_shr (by decide), pw_xor, pw_xor]; rfl
theorem pw_wnext (x y z t : Nat → UInt32) (L : Nat) : (pw x L + qs0 (lmask L) (pw y L) + pw z L + qs1 (lmask L) (pw t L)) &&& lmask L = pw (fun i => x i + sg0 (y i) + z i + sg1 (t i)) L := by
  rw [pw_sg0, pw_sg1]
  simp only [pk_pw, pk_add]
  refine pw_of (fun i => ?_) (fun i => ?_)
  · have h1 := u32_lt (x i); have h2 := u32_lt (sg0 (y i)); have h3 := u32_lt (z i); have h4 := u32_lt (sg1 (t i)); omega
  · simp only [UInt32.toNat_add]; omega
theorem pw_one (e f g h w : Nat → UInt32) (k : UInt32) (L : Nat) :
    (pw h L + (qrot (lmask L) (pw e L) 6 ^^^ qrot (lmask L) (pw e L) 11 ^^^ qrot (lmask L) (pw e L) 25) + ((pw e L &&& pw f L) ^^^ ((lmask L ^^^ pw e L) &&& pw g L)) + k.toNat * pk (fun _ => 1) L + pw w L) &&& lmask L
      = pw (fun i => h i + (rotr (e i) 6 ^^^ rotr (e i) 11 ^^^ rotr (e i) 25) + ((e i &&& f i) ^^^ (~~~ e i &&& g i)) + k + w i) L := by
  rw [pw_rot (by decide) (by decide), pw_rot (by decide) (by decide), pw_rot (by decide) (by decide), pw_xor, pw_xor, pw_not, pw_and, pw_and, pw_xor, pw_const]
  simp only [pk_pw, pk_add]
  refine pw_of (fun i => ?_) (fun i => ?_)
  · have h1 := u32_lt (h i); have h2 := u32_lt (rotr (e i) 6 ^^^ rotr (e i) 11 ^^^ rotr (e i) 25); have h3 := u32_lt ((e i &&& f i) ^^^ (~~~ e i &&& g i)); have h4 := u32_lt k; have h5 := u32_lt (w i); omega
  · simp only [UInt32.toNat_add]; omega
theorem pw_two (a b c o : Nat → UInt32) (L : Nat) :
    (pw o L + ((qrot (lmask L) (pw a L) 2 ^^^ qrot (lmask L) (pw a L) 13 ^^^ qrot (lmask L) (pw a L) 22) + (((pw a L &&& pw b L) ^^^ (pw a L &&& pw c L)) ^^^ (pw b L &&& pw c L)))) &&& lmask L
      = pw (fun i => o i + ((rotr (a i) 2 ^^^ rotr (a i) 13 ^^^ rotr (a i) 22) + (((a i &&& b i) ^^^ (a i &&& c i)) ^^^ (b i &&& c i)))) L := by
  rw [pw_rot (by decide) (by decide), pw_rot (by decide) (by decide), pw_rot (by decide) (by decide), pw_xor, pw_xor, pw_and, pw_and, pw_and, pw_xor, pw_xor]
  simp only [pk_pw, pk_add]
  refine pw_of (fun i => ?_) (fun i => ?_)
  · have h1 := u32_lt (o i); have h2 := u32_lt (rotr (a i) 2 ^^^ rotr (a i) 13 ^^^ rotr (a i) 22); have h3 := u32_lt (((a i &&& b i) ^^^ (a i &&& c i)) ^^^ (b i &&& c i)); omega
  · simp only [UInt32.toNat_add]; omega
theorem pw_add (x y : Nat → UInt32) (L : Nat) : (pw x L + pw y L) &&& lmask L = pw (fun i => x i + y i) L := by
  simp only [pk_pw, pk_add]
  refine pw_of (fun i => ?_) (fun i => ?_)
  · have h1 := u32_lt (x i); have h2 := u32_lt (y i); omega
  · simp only [UInt32.toNat_add]
def qgo (M O : Nat) : List Nat → Nat → Nat → Nat → Nat → Nat → Nat → Nat → Nat → Nat → Nat → Nat → Nat → Nat → Nat → Nat → Nat → Nat → Nat → Nat → Nat → Nat → Nat → Nat → Nat → List Nat
  | [], _, _, _, _, _, _, _, _, _, _, _, _, _, _, _, _, a, b, c, d, e, f, g, h => [a, b, c, d, e, f, g, h]
  | k :: ks, w0, w1, w2, w3, w4, w5, w6, w7, w8, w9, w10, w11, w12, w13, w14, w15, a, b, c, d, e, f, g, h =>
    fc ((w0 + qs0 M w1 + w9 + qs1 M w14) &&& M) fun w =>
    fc ((h + (qrot M e 6 ^^^ qrot M e 11 ^^^ qrot M e 25) + ((e &&& f) ^^^ ((M ^^^ e) &&& g)) + k * O + w0) &&& M) fun one =>
    fc ((one + ((qrot M a 2 ^^^ qrot M a 13 ^^^ qrot M a 22) + (((a &&& b) ^^^ (a &&& c)) ^^^ (b &&& c)))) &&& M) fun a' =>
    fc ((d + one) &&& M) fun e' =>
    qgo M O ks w1 w2 w3 w4 w5 w6 w7 w8 w9 w10 w11 w12 w13 w14 w15 w a' a b c e' e f g
def ksF (K : Nat → UInt32) (j : Nat) : Nat → List Nat
  | 0 => []
  | n + 1 => (K j).toNat :: ksF K (j + 1) n
theorem schq_next (b : List UInt8) (j : Nat) : sch b (j + 16) = sch b j + sg0 (sch b (j + 1)) + sch b (j + 9) + sg1 (sch b (j + 14)) := by
  rw [sch.eq_1 b (j + 16), dif_neg (by omega)]
  rw [show j + 16 - 16 = j by omega, show j + 16 - 15 = j + 1 by omega, show j + 16 - 7 = j + 9 by omega, show j + 16 - 2 = j + 14 by omega]
section
variable (K : Nat → UInt32) (b : Nat → List UInt8) (v : Nat → V8) (L : Nat)
abbrev sw (j : Nat) : Nat := pw (fun l => sch (b l) j) L
abbrev sv (p : V8 → UInt32) (j : Nat) : Nat := pw (fun l => p (rnds K (sch (b l)) (v l) j)) L
set_option maxHeartbeats 1000000 in
theorem qgo_eq : ∀ (n j m : Nat), j + n = m → qgo (lmask L) (pk (fun _ => 1) L) (ksF K j n) (sw b L (j + 0)) (sw b L (j + 1)) (sw b L (j + 2)) (sw b L (j + 3)) (sw b L (j + 4)) (sw b L (j + 5)) (sw b L (j + 6)) (sw b L (j + 7)) (sw b L (j + 8)) (sw b L (j + 9)) (sw b L (j + 10)) (sw b L (j + 11)) (sw b L (j + 12)) (sw b L (j + 13)) (sw b L (j + 14)) (sw b L (j + 15)) (sv K b v L V8.a j) (sv K b v L V8.b j) (sv K b v L V8.c j) (sv K b v L V8.d j) (sv K b v L V8.e j) (sv K b v L V8.f j) (sv K b v L V8.g j) (sv K b v L V8.h j)
    = [sv K b v L V8.a m, sv K b v L V8.b m, sv K b v L V8.c m, sv K b v L V8.d m, sv K b v L V8.e m, sv K b v L V8.f m, sv K b v L V8.g m, sv K b v L V8.h m]
  | 0, j, m, h => by obtain rfl : j = m := by omega
                     rfl
  | n + 1, j, m, h => by
    unfold ksF qgo
    simp only [fc_eq]
    rw [show sw b L (j + 0) = sw b L j from rfl]
    rw [pw_wnext, pw_one, pw_two, pw_add]
    have e1 : pw (fun i => sch (b i) (j + 0) + sg0 (sch (b i) (j + 1)) + sch (b i) (j + 9) + sg1 (sch (b i) (j + 14))) L = sw b L (j + 16) := pk_congr fun i _ => congrArg UInt32.toNat (schq_next (b i) j).symm
    have := qgo_eq n (j + 1) m (by omega)
    simp only [show j + 1 + 0 = j + 1 from by omega, show j + 1 + 1 = j + 2 from by omega, show j + 1 + 2 = j + 3 from by omega, show j + 1 + 3 = j + 4 from by omega, show j + 1 + 4 = j + 5 from by omega, show j + 1 + 5 = j + 6 from by omega, show j + 1 + 6 = j + 7 from by omega, show j + 1 + 7 = j + 8 from by omega, show j + 1 + 8 = j + 9 from by omega, show j + 1 + 9 = j + 10 from by omega, show j + 1 + 10 = j + 11 from by omega, show j + 1 + 11 = j + 12 from by omega, show j + 1 + 12 = j + 13 from by omega, show j + 1 + 13 = j + 14 from by omega, show j + 1 + 14 = j + 15 from by omega, show j + 1 + 15 = j + 16 from by omega] at this
    rw [← e1] at this
    exact this
end
def qblk (M O : Nat) (ks : List Nat) (w : List Nat) (s : List Nat) : List Nat := match w, s with
  | [w0, w1, w2, w3, w4, w5, w6, w7, w8, w9, w10, w11, w12, w13, w14, w15], [a, b, c, d, e, f, g, h] => match qgo M O ks w0 w1 w2 w3 w4 w5 w6 w7 w8 w9 w10 w11 w12 w13 w14 w15 a b c d e f g h with
    | [a', b', c', d', e', f', g', h'] => [(a + a') &&& M, (b + b') &&& M, (c + c') &&& M, (d + d') &&& M, (e + e') &&& M, (f + f') &&& M, (g + g') &&& M, (h + h') &&& M]
    | _ => []
  | _, _ => []
def lanes8 (L : Nat) (v : Nat → V8) : List Nat := [pw (fun l => (v l).a) L, pw (fun l => (v l).b) L, pw (fun l => (v l).c) L, pw (fun l => (v l).d) L, pw (fun l => (v l).e) L, pw (fun l => (v l).f) L, pw (fun l => (v l).g) L, pw (fun l => (v l).h) L]
def words16 (L : Nat) (b : Nat → List UInt8) : List Nat := [pw (fun l => wordAt (b l) 0) L, pw (fun l => wordAt (b l) 1) L, pw (fun l => wordAt (b l) 2) L, pw (fun l => wordAt (b l) 3) L, pw (fun l => wordAt (b l) 4) L, pw (fun l => wordAt (b l) 5) L, pw (fun l => wordAt (b l) 6) L, pw (fun l => wordAt (b l) 7) L, pw (fun l => wordAt (b l) 8) L, pw (fun l => wordAt (b l) 9) L, pw (fun l => wordAt (b l) 10) L, pw (fun l => wordAt (b l) 11) L, pw (fun l => wordAt (b l) 12) L, pw (fun l => wordAt (b l) 13) L, pw (fun l => wordAt (b l) 14) L, pw (fun l => wordAt (b l) 15) L]
theorem schq_lo (b : List UInt8) {j : Nat} (h : j < 16) : sch b j = wordAt b j := by rw [sch.eq_1, dif_pos h]
theorem qblk_eq (K : Nat → UInt32) (b : Nat → List UInt8) (v : Nat → V8) (L : Nat) : qblk (lmask L) (pk (fun _ => 1) L) (ksF K 0 64) (words16 L b) (lanes8 L v) = lanes8 L (fun l => take64 K (v l) (b l)) := by
  have h := qgo_eq K b v L 64 0 64 rfl
  have hw : ∀ j, j < 16 → sw b L (0 + j) = pw (fun l => wordAt (b l) j) L := fun j hj => pk_congr fun i _ => (by show (sch (b i) (0 + j)).toNat = (wordAt (b i) j).toNat; rw [Nat.zero_add, schq_lo _ hj])
  rw [hw 0 (by decide), hw 1 (by decide), hw 2 (by decide), hw 3 (by decide), hw 4 (by decide), hw 5 (by decide), hw 6 (by decide), hw 7 (by decide), hw 8 (by decide), hw 9 (by decide), hw 10 (by decide), hw 11 (by decide), hw 12 (by decide), hw 13 (by decide), hw 14 (by decide), hw 15 (by decide)] at h
  unfold qblk words16 lanes8
  simp only []
  have h' : qgo (lmask L) (pk (fun _ => 1) L) (ksF K 0 64) (pw (fun l => wordAt (b l) 0) L) (pw (fun l => wordAt (b l) 1) L) (pw (fun l => wordAt (b l) 2) L) (pw (fun l => wordAt (b l) 3) L) (pw (fun l => wordAt (b l) 4) L) (pw (fun l => wordAt (b l) 5) L) (pw (fun l => wordAt (b l) 6) L) (pw (fun l => wordAt (b l) 7) L) (pw (fun l => wordAt (b l) 8) L) (pw (fun l => wordAt (b l) 9) L) (pw (fun l => wordAt (b l) 10) L) (pw (fun l => wordAt (b l) 11) L) (pw (fun l => wordAt (b l) 12) L) (pw (fun l => wordAt (b l) 13) L) (pw (fun l => wordAt (b l) 14) L) (pw (fun l => wordAt (b l) 15) L) (pw (fun l => (v l).a) L) (pw (fun l => (v l).b) L) (pw (fun l => (v l).c) L) (pw (fun l => (v l).d) L) (pw (fun l => (v l).e) L) (pw (fun l => (v l).f) L) (pw (fun l => (v l).g) L) (pw (fun l => (v l).h) L) = _ := h
  rw [h']
  simp only [pw_add]
  rfl
def qtks (K : Nat → UInt32) (v : V8) (b : List UInt8) : Nat → V8
  | 0 => v
  | n + 1 => qtks K (take64 K v (b.take 64)) (b.drop 64) n
theorem takes_qtks (K : Nat → UInt32) : ∀ (n : Nat) (v : V8) (b : List UInt8), b.length = 64 * n → (takes K v b).1 = qtks K v b n
  | 0, v, b, h => by rw [takes.eq_1, dif_neg (by omega)]; rfl
  | n + 1, v, b, h => by
    rw [takes.eq_1, dif_pos (by omega)]
    exact takes_qtks K n _ _ (by rw [List.length_drop]; omega)
theorem wordAt_take (b : List UInt8) {j : Nat} (h : j < 16) : wordAt (b.take 64) j = wordAt b j := by
  unfold wordAt
  have e : ∀ k, k < 64 → (b.take 64).getD k 0 = b.getD k 0 := fun k hk => by simp [List.getD, hk]
  rw [e _ (by omega), e _ (by omega), e _ (by omega), e _ (by omega)]
def qall (M O : Nat) (ks : List Nat) (s : List Nat) : List (List Nat) → List Nat
  | [] => s
  | w :: r => qall M O ks (qblk M O ks w s) r
def wordsAll (L : Nat) (b : Nat → List UInt8) : Nat → List (List Nat)
  | 0 => []
  | n + 1 => words16 L b :: wordsAll L (fun l => (b l).drop 64) n
theorem words_take (L : Nat) (b : Nat → List UInt8) : words16 L (fun l => (b l).take 64) = words16 L b := by
  unfold words16
  have e : ∀ j, j < 16 → pw (fun l => wordAt ((b l).take 64) j) L = pw (fun l => wordAt (b l) j) L := fun j hj => pk_congr fun i _ => (by show (wordAt ((b i).take 64) j).toNat = (wordAt (b i) j).toNat; rw [wordAt_take _ hj])
  rw [e 0 (by decide), e 1 (by decide), e 2 (by decide), e 3 (by decide), e 4 (by decide), e 5 (by decide), e 6 (by decide), e 7 (by decide), e 8 (by decide), e 9 (by decide), e 10 (by decide), e 11 (by decide), e 12 (by decide), e 13 (by decide), e 14 (by decide), e 15 (by decide)]
theorem qall_eq (K : Nat → UInt32) (L : Nat) : ∀ (n : Nat) (v : Nat → V8) (b : Nat → List UInt8), qall (lmask L) (pk (fun _ => 1) L) (ksF K 0 64) (lanes8 L v) (wordsAll L b n) = lanes8 L (fun l => qtks K (v l) (b l) n)
  | 0, v, b => rfl
  | n + 1, v, b => by
    unfold wordsAll qall
    rw [← words_take, qblk_eq, qall_eq K L n]
    rfl
theorem pk_1 (f : Nat → Nat) : pk f 1 = f 0 := by simp [pk]
theorem pw_1 (u : Nat → UInt32) : pw u 1 = (u 0).toNat := pk_1 _
def qnat8 (v : V8) : List Nat := [v.a.toNat, v.b.toNat, v.c.toNat, v.d.toNat, v.e.toNat, v.f.toNat, v.g.toNat, v.h.toNat]
theorem lanes8_1 (v : Nat → V8) : lanes8 1 v = qnat8 (v 0) := by simp only [lanes8, pw_1]; rfl
def qB (l : List UInt8) (i : Nat) : Nat := (l.getD i 0).toNat
def qW (l : List UInt8) (j : Nat) : Nat := qB l (4 * j) * 16777216 + qB l (4 * j + 1) * 65536 + qB l (4 * j + 2) * 256 + qB l (4 * j + 3)
theorem qW_eq (l : List UInt8) (j : Nat) : (wordAt l j).toNat = qW l j := by
  unfold wordAt qW qB
  generalize l.getD (4 * j) 0 = x; generalize l.getD (4 * j + 1) 0 = y; generalize l.getD (4 * j + 2) 0 = z; generalize l.getD (4 * j + 3) 0 = t
  have hx := x.toNat_lt; have hy := y.toNat_lt; have hz := z.toNat_lt; have ht := t.toNat_lt
  simp only [UInt32.toNat_or, UInt32.toNat_shiftLeft, UInt8.toNat_toUInt32]
  have e24 : (UInt32.ofNat 24).toNat % 32 = 24 := by decide
  have e16 : (UInt32.ofNat 16).toNat % 32 = 16 := by decide
  have e8 : (UInt32.ofNat 8).toNat % 32 = 8 := by decide
  rw [e24, e16, e8]
  simp only [Nat.shiftLeft_eq]
  have a1 : x.toNat * 2 ^ 24 % 2 ^ 32 = 2 ^ 24 * x.toNat := by rw [Nat.mod_eq_of_lt (Nat.lt_of_lt_of_le (Nat.mul_lt_mul_of_pos_right hx (Nat.pow_pos (by decide))) (by decide)), Nat.mul_comm]
  have a2 : y.toNat * 2 ^ 16 % 2 ^ 32 = 2 ^ 16 * y.toNat := by rw [Nat.mod_eq_of_lt (Nat.lt_of_lt_of_le (Nat.mul_lt_mul_of_pos_right hy (Nat.pow_pos (by decide))) (by decide)), Nat.mul_comm]
  have a3 : z.toNat * 2 ^ 8 % 2 ^ 32 = 2 ^ 8 * z.toNat := by rw [Nat.mod_eq_of_lt (Nat.lt_of_lt_of_le (Nat.mul_lt_mul_of_pos_right hz (Nat.pow_pos (by decide))) (by decide)), Nat.mul_comm]
  rw [a1, a2, a3]
  rw [← Nat.two_pow_add_eq_or_of_lt (i := 24) (show 2 ^ 16 * y.toNat < 2 ^ 24 by omega)]
  rw [Nat.or_assoc, ← Nat.two_pow_add_eq_or_of_lt (i := 8) (show t.toNat < 2 ^ 8 by omega)]
  have : 2 ^ 24 * x.toNat + 2 ^ 16 * y.toNat = 2 ^ 16 * (256 * x.toNat + y.toNat) := by omega
  rw [this, ← Nat.two_pow_add_eq_or_of_lt (i := 16) (show 2 ^ 8 * z.toNat + t.toNat < 2 ^ 16 by omega)]
  omega
def qWords (l : List UInt8) : List Nat := [qW l 0, qW l 1, qW l 2, qW l 3, qW l 4, qW l 5, qW l 6, qW l 7, qW l 8, qW l 9, qW l 10, qW l 11, qW l 12, qW l 13, qW l 14, qW l 15]
def qWordsS (l : List UInt8) : Nat → List (List Nat)
  | 0 => []
  | n + 1 => qWords l :: qWordsS (l.drop 64) n
theorem qWordsS_eq : ∀ (n : Nat) (b : Nat → List UInt8), wordsAll 1 b n = qWordsS (b 0) n
  | 0, b => rfl
  | n + 1, b => by
    unfold wordsAll qWordsS
    rw [qWordsS_eq n, words16, qWords]
    simp only [pw_1, qW_eq]
def qini : List Nat := qnat8 v0
theorem lmask_1 : lmask 1 = 4294967295 := by kernel_rfl
theorem ones_1 : pk (fun _ => 1) 1 = 1 := by kernel_rfl
theorem one_msg (K : Nat → UInt32) (b : List UInt8) (n : Nat) (h : b.length = 64 * n) : qnat8 (takes K v0 b).1 = qall 4294967295 1 (ksF K 0 64) qini (qWordsS b n) := by
  have := qall_eq K 1 n (fun _ => v0) (fun _ => b)
  rw [lmask_1, ones_1, lanes8_1, lanes8_1, qWordsS_eq] at this
  rw [takes_qtks K n v0 b h, ← this]; rfl
end
section
def digN (l : List Nat) : List UInt8 := (List.range 16).map fun i => UInt8.ofNat (l.getD (i / 4) 0 / 2 ^ (24 - 8 * (i % 4)))
theorem outByte_nat (v : V8) {i : Nat} (hi : i < 16) : outByte v i = UInt8.ofNat ((qnat8 v).getD (i / 4) 0 / 2 ^ (24 - 8 * (i % 4))) := by
  have hg : ∀ j, j < 4 → (v.get j).toNat = (qnat8 v).getD j 0 := fun j hj => by
    match j with
    | 0 => rfl
    | 1 => rfl
    | 2 => rfl
    | 3 => rfl
    | j + 4 => omega
  rw [← hg (i / 4) (by omega)]
  unfold outByte
  apply UInt8.toNat_inj.1
  rw [UInt32.toNat_toUInt8, UInt32.toNat_shiftRight, UInt8.toNat_ofNat']
  have e : (UInt32.ofNat (24 - 8 * (i % 4))).toNat % 32 = 24 - 8 * (i % 4) := by rw [UInt32.toNat_ofNat', Nat.mod_eq_of_lt (by omega), Nat.mod_eq_of_lt (by omega)]
  rw [e, Nat.shiftRight_eq_div_pow]
theorem refSum_16 (K : Nat → UInt32) (b : List UInt8) : (refSum K b).take 16 = digN (qnat8 (takes K v0 (refPad b)).1) := by
  unfold refSum digN
  rw [← List.map_take]
  have : (List.range 32).take 16 = List.range 16 := by decide
  rw [this]
  exact List.map_congr_left fun i hi => outByte_nat _ (List.mem_range.1 hi)
theorem refPad_len (b : List UInt8) : (refPad b).length = 64 * ((b.length + 9 + 63) / 64) := by
  simp only [refPad, List.length_append, List.length_cons, List.length_replicate, padN, lenBytes, List.length_map, List.length_range]
  omega
def idQ (bs : List UInt8) : List UInt8 := digN (qall 4294967295 1 (ksF Kc 0 64) qini (qWordsS (refPad (framed 6 [bs])) (((framed 6 [bs]).length + 9 + 63) / 64)))
theorem idOf_q {b : Block} (h : (wBlock b ⟨0, []⟩).err = 0) : (idOf b).l = idQ (wBlock b ⟨0, []⟩).bs := by
  unfold idOf idQ
  rw [if_pos h, ← one_msg Kc _ _ (refPad_len _), ← refSum_16]
  exact hOf_ref Kc 6 _
theorem idOf_is {b : Block} {d : Dig} (h : (wBlock b ⟨0, []⟩).err = 0) (e : idQ (wBlock b ⟨0, []⟩).bs = d.l) : idOf b = d := Dig.ext' ((idOf_q h).trans e)
end
section
def g0 : Block := ⟨1, 0, dig0, qc0, [], []⟩
def chB (b : Block) (id : Dig) (on : Int) (tx : UInt8) : Block := ⟨b.epoch, b.round + on, id, ⟨b.epoch, b.round, id, []⟩, [[tx]], []⟩
def gid : Dig := ⟨[199, 135, 36, 83, 74, 106, 79, 158, 139, 73, 213, 190, 14, 154, 125, 43], rfl⟩
def idA : Nat → Dig
  | 0 => gid
  | 1 => ⟨[123, 55, 230, 167, 65, 132, 198, 89, 230, 99, 114, 57, 194, 219, 71, 140], rfl⟩
  | 2 => ⟨[236, 41, 225, 101, 149, 18, 149, 31, 86, 229, 19, 217, 9, 181, 119, 154], rfl⟩
  | 3 => ⟨[179, 91, 19, 183, 192, 179, 88, 46, 70, 226, 115, 158, 229, 40, 152, 161], rfl⟩
  | 4 => ⟨[242, 224, 134, 121, 113, 19, 98, 14, 228, 223, 125, 150, 171, 70, 85, 192], rfl⟩
  | 5 => ⟨[59, 202, 181, 5, 190, 23, 231, 122, 204, 252, 15, 79, 114, 94, 15, 78], rfl⟩
  | _ => dig0
def blA : Nat → Block
  | 0 => g0
  | n + 1 => chB (blA n) (idA n) 1 1
def idB : Nat → Dig
  | 0 => gid
  | 1 => ⟨[206, 196, 235, 13, 221, 100, 65, 205, 181, 101, 155, 224, 55, 239, 101, 36], rfl⟩
  | 2 => ⟨[77, 235, 145, 90, 45, 31, 40, 71, 207, 133, 126, 73, 129, 207, 253, 223], rfl⟩
  | 3 => ⟨[141, 0, 199, 99, 55, 136, 211, 86, 47, 30, 203, 86, 81, 84, 61, 143], rfl⟩
  | 4 => ⟨[141, 125, 12, 194, 66, 91, 127, 19, 121, 13, 93, 105, 80, 88, 133, 248], rfl⟩
  | 5 => ⟨[15, 125, 95, 103, 37, 132, 68, 244, 140, 170, 92, 13, 117, 250, 227, 127], rfl⟩
  | _ => dig0
def blB : Nat → Block
  | 0 => g0
  | n + 1 => chB (blB n) (idB n) 1 2
theorem g0_err : (wBlock g0 ⟨0, []⟩).err = 0 := by kernel_rfl
theorem g0_id : idOf g0 = gid := idOf_is g0_err (by kernel_rfl)
theorem smB_ch {b : Block} {id : Dig} {on : Int} {tx : UInt8} : smBlk (chB b id on tx) := ⟨⟨by simp [chB], fun _ h => by cases h⟩, by simp [chB], by simp [chB], fun x h => by simp [chB] at h; subst h; simp⟩
theorem smB_g0 : smBlk g0 := ⟨⟨by decide, fun _ h => by cases h⟩, by decide, by decide, fun _ h => by cases h⟩
def qcA (i : Nat) : QC := ⟨1, i, idA i, []⟩
def qcB (i : Nat) : QC := ⟨1, i, idB i, []⟩
def fkT (m n : Nat) : Tr := ⟨gid, (gid, g0) :: ((List.range m).map (fun i => (idA (i + 1), blA (i + 1))) ++ (List.range n).map (fun i => (idB (i + 1), blB (i + 1)))), qcA 0 :: ((List.range (m - 1)).map (fun i => qcA (i + 1)) ++ (List.range (n - 1)).map (fun i => qcB (i + 1)))⟩
end
section
def genC : List Value := .int .i64 1 :: .int .i64 0 :: (dc dig0 ++ (qcC ++ [.slice none 0 0, .slice none 0 0]))
theorem genC_len : genC.length = 39 := by simp [genC, dc_length, qcC]
theorem rdGen {w : World} {A : Nat → Prop} : RdBlock w A genC g0 := ⟨qcC, none, 0, 0, none, 0, 0, rfl, rdQC0, Nat.le_refl _, RdList.nil, Nat.le_refl _, RdList.nil⟩
theorem rdQ1 {w : World} {A : Nat → Prop} (e r : Int) (d : Dig) : RdQC w A (.int .i64 e :: .int .i64 r :: (dc d ++ [.slice none 0 0])) ⟨e, r, d, []⟩ := ⟨none, 0, 0, rfl, Nat.le_refl _, RdList.nil⟩
def chC (b : Block) (id : Dig) (on : Int) (b24 : Nat) : List Value := .int .i64 b.epoch :: .int .i64 (b.round + on) :: (dc id ++ (.int .i64 b.epoch :: .int .i64 b.round :: (dc id ++ [.slice none 0 0, .slice (some ⟨b24, 0, none⟩) 1 1, .slice none 0 0])))
theorem chC_len (b : Block) (id : Dig) (on : Int) (b24 : Nat) : (chC b id on b24).length = 39 := by simp [chC, dc_length]
theorem chC_one (b : Block) (id : Dig) (on : Int) (b24 : Nat) : ∀ v ∈ chC b id on b24, v.oneCell' = true :=
  all_cons' rfl (all_cons' rfl (all_app' (dc_one _) (all_cons' rfl (all_cons' rfl (all_app' (dc_one _) (all_cons' rfl (all_cons' rfl (all_cons' rfl all_nil'))))))))
theorem rd_chC {w : World} {A : Nat → Prop} {b : Block} {id : Dig} {on : Int} {tx : UInt8} {b23 b24 : Nat} (h1 : RdRow w A 1 (some ⟨b24, 0, none⟩) 1 [.slice (some ⟨b23, 0, none⟩) 1 1]) (h2 : RdRow w A 1 (some ⟨b23, 0, none⟩) 1 [B8 tx]) : RdBlock w A (chC b id on b24) (chB b id on tx) :=
  ⟨_, some ⟨b24, 0, none⟩, 1, 1, none, 0, 0, by simp [chC, chB], rdQ1 b.epoch b.round id, Nat.le_refl _, ⟨[[.slice (some ⟨b23, 0, none⟩) 1 1]], h1, by simp, rfl, fun i x y hx hy => by
    match i with
    | 0 => simp at hx; subst hx; simp [chB] at hy; subst hy; exact ⟨_, _, _, rfl, Nat.le_refl _, h2⟩
    | i + 1 => simp at hx⟩, Nat.le_refl _, RdList.nil⟩
theorem vl_chC {w : World} {F : Nat → Prop} {b : Block} {id : Dig} {on : Int} {tx : UInt8} {b23 b24 e1 e2 : Nat} (h : stars [rowR e1 1 (some ⟨b24, 0, none⟩) 1 1 [.slice (some ⟨b23, 0, none⟩) 1 1], rowR e2 1 (some ⟨b23, 0, none⟩) 1 1 [B8 tx]] w F) : stars [VlR RdBlock (chC b id on b24) (chB b id on tx)] w F := by
  obtain ⟨F1, F2, h1, h2, hF⟩ := stars_two h
  exact rdR_mk (rd_chC ((rowR.rd h1).mv (still_sub fun k hk => (hF k).2 (.inl hk))) ((rowR.rd h2).mv (still_sub fun k hk => (hF k).2 (.inr hk)))) h
section
variable {w : World} {F : Nat → Prop} {ea : Nat → Addr} {es : List Nat}
theorem tadd_eq {q : Nat} {t t' : Tr} {cs : List Value} {b : Block} {id d : Dig} {e : Nat} [Has es 1] [Has es 4] [Has es 8] [Has es 9] [Has es 12] [Has es 14] [Has es 16] [Has es 17] (hE : GErr es w (fun k => ¬ F k) 251 ea) (hK : KR w (fun k => ¬ F k)) (h : stars [TreeR q t] w F) (hok : TOk t) (hb : RdBlock w (fun k => ¬ F k) cs b) (hs : smBlk b)
    (h0 : (wBlock b ⟨0, []⟩).err = 0) (hid : idOf b = id) (he : addE t b 0 id = (e, d, t')) :
    Calls Tryz.prog 29 #[.pointer (some ⟨q, 0, none⟩), .agg cs.toArray] w (Post w F (fun _ : Unit => .tuple #[.agg (dc d).toArray, eV 251 ea e]) (fun _ => [TreeR q t'])) := by
  have h1 := tadd_ok hE hK h hok hb (fun _ => hs)
  rw [h0, hid, he] at h1
  exact h1
end
attribute [local irreducible] Gl Gc Gx Gs Runs Wt
attribute [local irreducible] dc qcC blkC idOf TreeR gid fkT
end
section
theorem take_eq_succ {α : Type} {l m : List α} {k : Nat} {x : α} (h : l.take k = m.take k) (h1 : l[k]? = some x) (h2 : m[k]? = some x) : l.take (k + 1) = m.take (k + 1) := by
  rw [List.take_add_one, List.take_add_one, h, h1, h2]
theorem range_left {w : World} {g o : Nat} {xs ys : List Value} (h : w.rangeAt g o (xs ++ ys)) : w.rangeAt g o xs := fun j v hj => h j v (by
  rw [List.getElem?_append_left (List.getElem?_eq_some_iff.1 hj).1]; exact hj)
theorem range_right {w : World} {g o : Nat} {xs ys : List Value} (h : w.rangeAt g o (xs ++ ys)) : w.rangeAt g (o + xs.length) ys := fun j v hj => by
  have := h (xs.length + j) v (by rw [List.getElem?_append_right (by omega)]; simpa using hj)
  rwa [← Nat.add_assoc] at this
theorem range_at {w : World} {g o : Nat} {xs : List Value} (h : w.rangeAt g o xs) {j : Nat} {v : Value} (hj : xs[j]? = some v) : w.cell? ⟨g, o + j, none⟩ = some v := h j v hj
attribute [local irreducible] Gl Gc Gx Gs Runs Wt
theorem sameDigs_ok {w : World} {F : Nat → Prop} {n1 c1 n2 c2 : Nat} {a1 a2 : Option Addr} {l1 l2 : List Dig} (h : stars [] w F) (hx : RdList (RdDig) w (fun k => ¬ F k) 16 a1 n1 l1) (hy : RdList (RdDig) w (fun k => ¬ F k) 16 a2 n2 l2) :
    Calls Tryz.prog 123 #[.slice a1 n1 c1, .slice a2 n2 c2] w (Post w F (fun _ : Unit => .bool (decide (l1 = l2))) (fun _ => [])) := by
 have hn1 := hx.len (by decide)
 have hn2 := hy.len (by decide)
 have hm1 := hx.max
 simp only [maxLen] at hm1
 refine g_enter (env := [(0, .slice a1 n1 c1), (1, .slice a2 n2 c2)]) Tryz.func123 rfl h Tryz.ntmps123 rfl rfl ?_; refine gsr (zxa ?_); refine gnt (gc_seq (gsr (zxm ?_))); refine gp zln ?_; refine zxm ?_; refine gp zln ?_; refine gp zni ?_; refine gnt (gif rfl (fun hc10 => ?_) (fun hc10 => ?_))
 ·refine gsr (zxa ?_); refine gnt (gc_ret (gx_then_ret (gx_ret1 rfl (by conv => lhs; whnf) ?_))); have e : decide (l1 = l2) = false := decide_eq_false (fun h => by rw [h] at hn1; (try simp only at hc10); omega)
  rw [e]; exact ze ()
 ·have hnn : n1 = n2 := by (try simp only at hc10); omega
  refine gc_skip (gx_then (gc_seq (gsr (zxm ?_)))); refine gp zln ?_; refine zxm ?_; refine gnt (gc_block (gc_loop (α := Nat) (fun k => [pureR (k ≤ n1 ∧ l1.take k = l2.take k)]) (fun k => [(13, .int .i64 (k : Int))]) [4, 5, 14, 15, 16, 17, 18, 19, 20, 21, 22, 23, 24, 25] (fun k => n1 - k) 0 ?_ ?_ ?_))
  ·refine env_start (by kernel_rfl)
  ·rintro w' hw
   obtain ⟨F', hF', hst'⟩ := hw.sel (M := []) (by repeat (first | exact Sel.nil | (apply Sel.cons; · (repeat (first | exact Pick.here | apply Pick.there))))); exact ⟨F', stars_pure_mk ⟨Nat.zero_le _, rfl⟩ hF', hst'⟩
  ·intro k u; refine gc_pureR (fun hk => ?_)
   replace hk : k ≤ n1 ∧ l1.take k = l2.take k := hk
   refine gsr (gp zlt ?_); refine gnt (gc_seq (gif rfl (fun hc14 => ?_) (fun hc14 => ?_)))
   ·have hk' : k < n1 := by (try simp only at hc14); omega
    obtain ⟨g1, o1, cs1, x, ha1, hA1, hg1, hra1, hcl1, hl1, hrd1⟩ := hx.elem (by decide) hk'; obtain ⟨g2, o2, cs2, y, ha2, hA2, hg2, hra2, hcl2, hl2, hrd2⟩ := hy.elem (i := k) (by decide) (by omega); subst ha1; subst ha2; unfold RdDig at hrd1 hrd2
    subst hrd1; subst hrd2; refine gc_skip (gx_then (gc_seq (gc_block (gsr (zxm ?_))))); refine zxa ?_; refine gnt (gc_seq (gc_regionS (by kernel_rfl) (by kernel_rfl) ?_)); refine sp zmv ?_; refine sp zmv ?_; refine sp (r_indexAddr_slice rfl rfl Ty.sl_33 Ty.sz_27 (by omega) (by omega)) ?_; refine sp (r_ldNo rfl Ty.row_27 Ty.sz_27 hra1 hcl1 (by decide) hA1) ?_; refine sp zmv ?_; refine sp zmv ?_; refine sp (r_indexAddr_slice rfl rfl Ty.sl_33 Ty.sz_27 (by omega) (by omega)) ?_; refine sp (r_ldNo rfl Ty.row_27 Ty.sz_27 hra2 hcl2 (by decide) hA2) ?_; refine sp znd ?_; refine gs_nil ?_; refine gx_then (gif rfl (fun hc24 => ?_) (fun hc24 => ?_))
    ·refine gsr (zxa ?_); refine gnt (gc_ret (gx_block_ret ?_)); refine gx_then_ret (gx_round_ret ?_); refine gx_block_ret ?_; refine gx_then_ret (gx_ret1 rfl (by conv => lhs; whnf) ?_); have e : decide (l1 = l2) = false := decide_eq_false (fun h => by rw [h, hl2] at hl1; exact hc24 (Option.some.inj hl1).symm)
     rw [e]; exact ze ()
    ·refine gc_skip (gx_block_normal (gx_then (gc_region (gp zad ?_)))); refine zxm ?_; refine gl_nil (zrd (k + 1) ?_ ?_)
     ·show n1 - (k + 1) < n1 - k
      omega
     ·rintro w' hw
      obtain ⟨F', hF', hst'⟩ := hw.sel (M := []) (by repeat (first | exact Sel.nil | (apply Sel.cons; · (repeat (first | exact Pick.here | apply Pick.there))))); refine ⟨F', stars_pure_mk ⟨show k + 1 ≤ n1 by omega, ?_⟩ hF', hst'⟩
      have hxy : x = y := hc24
      subst hxy; exact take_eq_succ hk.2 hl1 hl2
   ·refine gc_exit ?_; refine gx_then_exit ?_; refine gx_round_exit ?_; refine gx_block_hit ?_; refine gx_then (gsr (zxa ?_)); refine gnt (gc_ret (gx_ret1 rfl (by conv => lhs; whnf) ?_)); have e : decide (l1 = l2) = true := decide_eq_true (by have h1 := hk.2; have hk' : k = n1 := (by (try simp only at hc14); omega); rw [List.take_of_length_le (by omega), List.take_of_length_le (by omega)] at h1; exact h1)
    rw [e]; exact ze ()
theorem sameLists_ok {w : World} {F : Nat → Prop} {n1 c1 n2 c2 : Nat} {a1 a2 : Option Addr} {l1 l2 : List (List UInt8)} (h : stars [] w F) (hx : RdList (RdBytes w (fun k => ¬ F k)) w (fun k => ¬ F k) 1 a1 n1 l1) (hy : RdList (RdBytes w (fun k => ¬ F k)) w (fun k => ¬ F k) 1 a2 n2 l2) :
    Calls Tryz.prog 60 #[.slice a1 n1 c1, .slice a2 n2 c2] w (Post w F (fun _ : Unit => .bool (decide (l1 = l2))) (fun _ => [])) := by
 have hn1 := hx.len (by decide)
 have hn2 := hy.len (by decide)
 have hm1 := hx.max
 simp only [maxLen] at hm1
 refine g_enter (env := [(0, .slice a1 n1 c1), (1, .slice a2 n2 c2)]) Tryz.func60 rfl h Tryz.ntmps60 rfl rfl ?_; refine gsr (zxa ?_); refine gnt (gc_seq (gsr (zxm ?_))); refine gp zln ?_; refine zxm ?_; refine gp zln ?_; refine gp zni ?_; refine gnt (gif rfl (fun hc10 => ?_) (fun hc10 => ?_))
 ·refine gsr (zxa ?_); refine gnt (gc_ret (gx_then_ret (gx_ret1 rfl (by conv => lhs; whnf) ?_))); have e : decide (l1 = l2) = false := decide_eq_false (fun h => by rw [h] at hn1; (try simp only at hc10); omega)
  rw [e]; exact ze ()
 ·have hnn : n1 = n2 := by (try simp only at hc10); omega
  refine gc_skip (gx_then (gc_seq (gsr (zxm ?_)))); refine gp zln ?_; refine zxm ?_; refine gnt (gc_block (gc_loop (α := Nat) (fun k => [pureR (k ≤ n1 ∧ l1.take k = l2.take k)]) (fun k => [(13, .int .i64 (k : Int))]) [4, 5, 14, 15, 16, 17, 18, 19, 20, 21, 22, 23, 24, 25, 26, 27] (fun k => n1 - k) 0 ?_ ?_ ?_))
  ·refine env_start (by kernel_rfl)
  ·rintro w' hw
   obtain ⟨F', hF', hst'⟩ := hw.sel (M := []) (by repeat (first | exact Sel.nil | (apply Sel.cons; · (repeat (first | exact Pick.here | apply Pick.there))))); exact ⟨F', stars_pure_mk ⟨Nat.zero_le _, rfl⟩ hF', hst'⟩
  ·intro k u; refine gc_pureR (fun hk => ?_)
   replace hk : k ≤ n1 ∧ l1.take k = l2.take k := hk
   refine gsr (gp zlt ?_); refine gnt (gc_seq (gif rfl (fun hc14 => ?_) (fun hc14 => ?_)))
   ·have hk' : k < n1 := by (try simp only at hc14); omega
    obtain ⟨g1, o1, cs1, x, ha1, hA1, hg1, hra1, hcl1, hl1, hrd1⟩ := hx.elem (by decide) hk'; obtain ⟨g2, o2, cs2, y, ha2, hA2, hg2, hra2, hcl2, hl2, hrd2⟩ := hy.elem (i := k) (by decide) (by omega); subst ha1; subst ha2; obtain ⟨a1', n1', c1', rfl, hn1', hb1⟩ := hrd1; obtain ⟨a2', n2', c2', rfl, hn2', hb2⟩ := hrd2; refine gc_skip (gx_then (gc_seq (gc_block (gsr (zxm ?_))))); refine zxa ?_; refine gnt (gc_seq (gc_regionS (by kernel_rfl) (by kernel_rfl) ?_)); refine sp zmv ?_; refine sp zmv ?_; refine sp (r_indexAddr_slice rfl rfl Ty.sl_48 Ty.sz_68 (by omega) (by omega)) ?_; refine sp (r_ld1o rfl Ty.row_68 (hra1 0 _ rfl) hA1) ?_; refine sp (r_str rfl Ty.sl_68 Ty.un_5 (by kernel_rfl) (fun w hw => hw.rdOld hb1)) ?_; refine sp zmv ?_; refine sp zmv ?_; refine sp (r_indexAddr_slice rfl rfl Ty.sl_48 Ty.sz_68 (by omega) (by omega)) ?_; refine sp (r_ld1o rfl Ty.row_68 (hra2 0 _ rfl) hA2) ?_; refine sp (r_str rfl Ty.sl_68 Ty.un_5 (by kernel_rfl) (fun w hw => hw.rdOld hb2)) ?_; refine sp zns ?_; refine gs_nil ?_; refine gx_then (gif rfl (fun hc26 => ?_) (fun hc26 => ?_))
    ·refine gsr (zxa ?_); refine gnt (gc_ret (gx_block_ret ?_)); refine gx_then_ret (gx_round_ret ?_); refine gx_block_ret ?_; refine gx_then_ret (gx_ret1 rfl (by conv => lhs; whnf) ?_); have e : decide (l1 = l2) = false := decide_eq_false (fun h => by rw [h, hl2] at hl1; exact hc26 (Option.some.inj hl1).symm)
     rw [e]; exact ze ()
    ·refine gc_skip (gx_block_normal (gx_then (gc_region (gp zad ?_)))); refine zxm ?_; refine gl_nil (zrd (k + 1) ?_ ?_)
     ·show n1 - (k + 1) < n1 - k
      omega
     ·rintro w' hw
      obtain ⟨F', hF', hst'⟩ := hw.sel (M := []) (by repeat (first | exact Sel.nil | (apply Sel.cons; · (repeat (first | exact Pick.here | apply Pick.there))))); refine ⟨F', stars_pure_mk ⟨show k + 1 ≤ n1 by omega, ?_⟩ hF', hst'⟩
      have hxy : x = y := hc26
      subst hxy; exact take_eq_succ hk.2 hl1 hl2
   ·refine gc_exit ?_; refine gx_then_exit ?_; refine gx_round_exit ?_; refine gx_block_hit ?_; refine gx_then (gsr (zxa ?_)); refine gnt (gc_ret (gx_ret1 rfl (by conv => lhs; whnf) ?_)); have e : decide (l1 = l2) = true := decide_eq_true (by have h1 := hk.2; have hk' : k = n1 := (by (try simp only at hc14); omega); rw [List.take_of_length_le (by omega), List.take_of_length_le (by omega)] at h1; exact h1)
    rw [e]; exact ze ()
theorem sameVdrs_ok {w : World} {F : Nat → Prop} {n1 c1 n2 c2 : Nat} {a1 a2 : Option Addr} {l1 l2 : List Vdr} (h : stars [] w F) (hx : RdList (RdVdr) w (fun k => ¬ F k) 17 a1 n1 l1) (hy : RdList (RdVdr) w (fun k => ¬ F k) 17 a2 n2 l2) :
    Calls Tryz.prog 61 #[.slice a1 n1 c1, .slice a2 n2 c2] w (Post w F (fun _ : Unit => .bool (decide (l1 = l2))) (fun _ => [])) := by
 have hn1 := hx.len (by decide)
 have hn2 := hy.len (by decide)
 have hm1 := hx.max
 simp only [maxLen] at hm1
 refine g_enter (env := [(0, .slice a1 n1 c1), (1, .slice a2 n2 c2)]) Tryz.func61 rfl h Tryz.ntmps61 rfl rfl ?_; refine gsr (zxa ?_); refine gnt (gc_seq (gsr (zxm ?_))); refine gp zln ?_; refine zxm ?_; refine gp zln ?_; refine gp zni ?_; refine gnt (gif rfl (fun hc10 => ?_) (fun hc10 => ?_))
 ·refine gsr (zxa ?_); refine gnt (gc_ret (gx_then_ret (gx_ret1 rfl (by conv => lhs; whnf) ?_))); have e : decide (l1 = l2) = false := decide_eq_false (fun h => by rw [h] at hn1; (try simp only at hc10); omega)
  rw [e]; exact ze ()
 ·have hnn : n1 = n2 := by (try simp only at hc10); omega
  refine gc_skip (gx_then (gc_seq (gsr (zxm ?_)))); refine gp zln ?_; refine zxm ?_; refine gnt (gc_block (gc_loop (α := Nat) (fun k => [pureR (k ≤ n1 ∧ l1.take k = l2.take k)]) (fun k => [(13, .int .i64 (k : Int))]) [4, 5, 14, 15, 16, 17, 18, 19, 20, 21, 22, 23, 24, 25, 26, 27, 28, 29, 30, 31, 32, 33, 34, 35, 36, 37, 38, 39, 40] (fun k => n1 - k) 0 ?_ ?_ ?_))
  ·refine env_start (by kernel_rfl)
  ·rintro w' hw
   obtain ⟨F', hF', hst'⟩ := hw.sel (M := []) (by repeat (first | exact Sel.nil | (apply Sel.cons; · (repeat (first | exact Pick.here | apply Pick.there))))); exact ⟨F', stars_pure_mk ⟨Nat.zero_le _, rfl⟩ hF', hst'⟩
  ·intro k u; refine gc_pureR (fun hk => ?_)
   replace hk : k ≤ n1 ∧ l1.take k = l2.take k := hk
   refine gsr (gp zlt ?_); refine gnt (gc_seq (gif rfl (fun hc14 => ?_) (fun hc14 => ?_)))
   ·have hk' : k < n1 := by (try simp only at hc14); omega
    obtain ⟨g1, o1, cs1, x, ha1, hA1, hg1, hra1, hcl1, hl1, hrd1⟩ := hx.elem (by decide) hk'; obtain ⟨g2, o2, cs2, y, ha2, hA2, hg2, hra2, hcl2, hl2, hrd2⟩ := hy.elem (i := k) (by decide) (by omega); subst ha1; subst ha2; unfold RdVdr at hrd1 hrd2
    subst hrd1; subst hrd2; refine gc_skip (gx_then (gc_seq (gc_block (gsr (zxm ?_))))); refine zxa ?_; refine gnt (gc_seq ?_); by_cases hsp6 : x.key = y.key
    ·refine gc_regionS (by kernel_rfl) (by kernel_rfl) ?_; refine sp zmv ?_; refine sp zmv ?_; refine sp (r_indexAddr_slice rfl rfl Ty.sl_49 Ty.sz_78 (by omega) (by omega)) ?_; refine sp zfa ?_; refine sp (r_ldNo rfl Ty.row_27 Ty.sz_27 (range_left hra1) (dc_length _) (by decide) hA1) ?_; refine sp zmv ?_; refine sp zmv ?_; refine sp (r_indexAddr_slice rfl rfl Ty.sl_49 Ty.sz_78 (by omega) (by omega)) ?_; refine sp zfa ?_; refine sp (r_ldNo rfl Ty.row_27 Ty.sz_27 (range_left hra2) (dc_length _) (by decide) hA2) ?_; refine sp (r_bool (b := !decide (x.key = y.key)) (c := false) (r_neq_dig rfl rfl Ty.arr_27 Ty.un_5 Ty.sz_5 (by kernel_rfl)) (by simp [hsp6])) ?_; refine sp zmv ?_; refine sq zmv ?_; refine sq zmv ?_; refine sq (r_indexAddr_slice rfl rfl Ty.sl_49 Ty.sz_78 (by omega) (by omega)) ?_; refine sq zfa ?_; refine sq (r_ld1o rfl Ty.row_3 (range_at hra1 (j := 16) (by first | rfl | (simp only [List.getElem?_cons_succ, List.getElem?_cons_zero, List.cons_append, List.append_assoc, get_dc, get_L, Nat.reduceLeDiff, Nat.reduceSub, Nat.reduceAdd, Nat.le_refl]; rfl))) hA1) ?_
     refine sq zmv ?_; refine sq zmv ?_; refine sq (r_indexAddr_slice rfl rfl Ty.sl_49 Ty.sz_78 (by omega) (by omega)) ?_; refine sq zfa ?_; refine sq (r_ld1o rfl Ty.row_3 (range_at hra2 (j := 16) (by first | rfl | (simp only [List.getElem?_cons_succ, List.getElem?_cons_zero, List.cons_append, List.append_assoc, get_dc, get_L, Nat.reduceLeDiff, Nat.reduceSub, Nat.reduceAdd, Nat.le_refl]; rfl))) hA2) ?_
     refine sq zni ?_; refine sp zpk ?_; refine gs_nil ?_; refine gx_then (gif rfl (fun hc39 => ?_) (fun hc39 => ?_))
     ·refine gsr (zxa ?_); refine gnt (gc_ret (gx_block_ret ?_)); refine gx_then_ret (gx_round_ret ?_); refine gx_block_ret ?_; refine gx_then_ret (gx_ret1 rfl (by conv => lhs; whnf) ?_); have e : decide (l1 = l2) = false := decide_eq_false (fun h => by rw [h, hl2] at hl1; exact hc39 (by rw [Option.some.inj hl1]))
      rw [e]; exact ze ()
     ·refine gc_skip (gx_block_normal (gx_then (gc_region (gp zad ?_)))); refine zxm ?_; refine gl_nil (zrd (k + 1) ?_ ?_)
      ·show n1 - (k + 1) < n1 - k
       omega
      ·rintro w' hw
       obtain ⟨F', hF', hst'⟩ := hw.sel (M := []) (by repeat (first | exact Sel.nil | (apply Sel.cons; · (repeat (first | exact Pick.here | apply Pick.there))))); refine ⟨F', stars_pure_mk ⟨show k + 1 ≤ n1 by omega, ?_⟩ hF', hst'⟩
       have hxy : x = y := by (try simp only at hc39); cases x; cases y; simp_all
       subst hxy; exact take_eq_succ hk.2 hl1 hl2
    ·refine gc_regionS (by kernel_rfl) (by kernel_rfl) ?_; refine sp zmv ?_; refine sp zmv ?_; refine sp (r_indexAddr_slice rfl rfl Ty.sl_49 Ty.sz_78 (by omega) (by omega)) ?_; refine sp zfa ?_; refine sp (r_ldNo rfl Ty.row_27 Ty.sz_27 (range_left hra1) (dc_length _) (by decide) hA1) ?_; refine sp zmv ?_; refine sp zmv ?_; refine sp (r_indexAddr_slice rfl rfl Ty.sl_49 Ty.sz_78 (by omega) (by omega)) ?_; refine sp zfa ?_; refine sp (r_ldNo rfl Ty.row_27 Ty.sz_27 (range_left hra2) (dc_length _) (by decide) hA2) ?_; refine sp (r_bool (b := !decide (x.key = y.key)) (c := true) (r_neq_dig rfl rfl Ty.arr_27 Ty.un_5 Ty.sz_5 (by kernel_rfl)) (by simp [hsp6])) ?_; refine sp zmv ?_; refine sn ?_; refine sn ?_; refine sn ?_; refine sn ?_; refine sn ?_; refine sn ?_; refine sn ?_; refine sn ?_; refine sn ?_; refine sn ?_; refine sn ?_; refine sp zpk ?_; refine gs_nil ?_; refine gx_then (gc_condT rfl rfl ?_); refine gsr (zxa ?_); refine gnt (gc_ret (gx_block_ret ?_)); refine gx_then_ret (gx_round_ret ?_); refine gx_block_ret ?_; refine gx_then_ret (gx_ret1 rfl (by conv => lhs; whnf) ?_); have e : decide (l1 = l2) = false := decide_eq_false (fun h => by rw [h, hl2] at hl1; exact hsp6 (by rw [Option.some.inj hl1]))
     rw [e]; exact ze ()
   ·refine gc_exit ?_; refine gx_then_exit ?_; refine gx_round_exit ?_; refine gx_block_hit ?_; refine gx_then (gsr (zxa ?_)); refine gnt (gc_ret (gx_ret1 rfl (by conv => lhs; whnf) ?_)); have e : decide (l1 = l2) = true := decide_eq_true (by have h1 := hk.2; have hk' : k = n1 := (by (try simp only at hc14); omega); rw [List.take_of_length_le (by omega), List.take_of_length_le (by omega)] at h1; exact h1)
    rw [e]; exact ze ()
end
section
attribute [local irreducible] Gl Gc Gx Gs Runs Wt
theorem sameSig_ok {w : World} {F : Nat → Prop} {cs1 cs2 : List Value} {x y : Sig} (h : stars [] w F) (hx : RdSig w (fun k => ¬ F k) cs1 x) (hy : RdSig w (fun k => ¬ F k) cs2 y) :
    Calls Tryz.prog 109 #[.agg cs1.toArray, .agg cs2.toArray] w (Post w F (fun _ : Unit => .bool (decide (x = y))) (fun _ => [])) := by
 obtain ⟨a1, n1, c1, a2, n2, c2, rfl, hk1, hk2, hd1, hd2⟩ := hx; obtain ⟨b1, m1, d1, b2, m2, d2, rfl, hj1, hj2, he1, he2⟩ := hy; refine g_enter (env := [(0, .agg (List.toArray ([.int .i64 x.leaf, .slice a1 n1 c1, .slice a2 n2 c2]))), (1, .agg (List.toArray ([.int .i64 y.leaf, .slice b1 m1 d1, .slice b2 m2 d2])))]) Tryz.func109 rfl h Tryz.ntmps109 rfl rfl ?_; refine gsr (zbN fun b2 => ?_); refine zbN fun b3 => ?_; refine zxa ?_; refine gnt (gc_seq ?_); by_cases hsq0 : x.leaf = y.leaf
 ·by_cases hsq1 : x.chains = y.chains
  ·refine gc_region (gp zfa ?_); refine gp zl ?_; refine gp zfa ?_; refine gp zl ?_; refine gp (r_bool (r_eql_int rfl rfl) (decide_eq_true hsq0)) ?_; refine zxm ?_; refine gq zfa ?_; refine gq zl ?_; refine gq zfa ?_; refine gq zl ?_; refine zc (fun _ => ?_) (c := fun w1 F1 F2 h1 h2 hd hst => sameDigs_ok h1 (hd1.mv hst.still) (he1.mv hst.still))
   rw [decide_eq_true hsq1]; refine gp zpk ?_; refine zxm ?_; refine gq zfa ?_; refine gq zl ?_; refine gq zfa ?_; refine gq zl ?_; refine zc (fun _ => ?_) (c := fun w1 F1 F2 h1 h2 hd hst => sameDigs_ok h1 (hd2.mv hst.still) (he2.mv hst.still))
   refine gp zpk ?_; refine zxa ?_; refine gnt (gc_ret (gx_ret1 rfl (by conv => lhs; whnf) ?_)); have e : decide (x = y) = decide (x.path = y.path) := by obtain ⟨⟩ := x; obtain ⟨⟩ := y; simp_all
   rw [e]; exact ze ()
  ·refine gc_region (gp zfa ?_); refine gp zl ?_; refine gp zfa ?_; refine gp zl ?_; refine gp (r_bool (r_eql_int rfl rfl) (decide_eq_true hsq0)) ?_; refine zxm ?_; refine gq zfa ?_; refine gq zl ?_; refine gq zfa ?_; refine gq zl ?_; refine zc (fun _ => ?_) (c := fun w1 F1 F2 h1 h2 hd hst => sameDigs_ok h1 (hd1.mv hst.still) (he1.mv hst.still))
   rw [decide_eq_false hsq1]; refine gp zpk ?_; refine zxm ?_; refine gn ?_; refine gn ?_; refine gn ?_; refine gn ?_; refine gn ?_; refine gp zpk ?_; refine zxa ?_; refine gnt (gc_ret (gx_ret1 rfl (by conv => lhs; whnf) ?_)); have e : decide (x = y) = false := decide_eq_false (fun h => hsq1 (by rw [h]))
   rw [e]; exact ze ()
 ·refine gc_region (gp zfa ?_); refine gp zl ?_; refine gp zfa ?_; refine gp zl ?_; refine gp (r_bool (r_eql_int rfl rfl) (decide_eq_false hsq0)) ?_; refine zxm ?_; refine gn ?_; refine gn ?_; refine gn ?_; refine gn ?_; refine gn ?_; refine gp zpk ?_; refine zxm ?_; refine gn ?_; refine gn ?_; refine gn ?_; refine gn ?_; refine gn ?_; refine gp zpk ?_; refine zxa ?_; refine gnt (gc_ret (gx_ret1 rfl (by conv => lhs; whnf) ?_)); have e : decide (x = y) = false := decide_eq_false (fun h => hsq0 (by rw [h]))
  rw [e]; exact ze ()
theorem sameSigneds_ok {w : World} {F : Nat → Prop} {n1 c1 n2 c2 : Nat} {a1 a2 : Option Addr} {l1 l2 : List Signed} (h : stars [] w F) (hx : RdList (RdSigned w (fun k => ¬ F k)) w (fun k => ¬ F k) 4 a1 n1 l1) (hy : RdList (RdSigned w (fun k => ¬ F k)) w (fun k => ¬ F k) 4 a2 n2 l2) :
    Calls Tryz.prog 88 #[.slice a1 n1 c1, .slice a2 n2 c2] w (Post w F (fun _ : Unit => .bool (decide (l1 = l2))) (fun _ => [])) := by
 have hn1 := hx.len (by decide)
 have hn2 := hy.len (by decide)
 have hm1 := hx.max
 simp only [maxLen] at hm1
 refine g_enter (env := [(0, .slice a1 n1 c1), (1, .slice a2 n2 c2)]) Tryz.func88 rfl h Tryz.ntmps88 rfl rfl ?_; refine gsr (zxa ?_); refine gnt (gc_seq (gsr (zxm ?_))); refine gp zln ?_; refine zxm ?_; refine gp zln ?_; refine gp zni ?_; refine gnt (gif rfl (fun hc10 => ?_) (fun hc10 => ?_))
 ·refine gsr (zxa ?_); refine gnt (gc_ret (gx_then_ret (gx_ret1 rfl (by conv => lhs; whnf) ?_))); have e : decide (l1 = l2) = false := decide_eq_false (fun h => by rw [h] at hn1; (try simp only at hc10); omega)
  rw [e]; exact ze ()
 ·have hnn : n1 = n2 := by (try simp only at hc10); omega
  refine gc_skip (gx_then (gc_seq (gsr (zxm ?_)))); refine gp zln ?_; refine zxm ?_; refine gnt (gc_block (gc_loop (α := Nat) (fun k => [pureR (k ≤ n1 ∧ l1.take k = l2.take k)]) (fun k => [(13, .int .i64 (k : Int))]) [4, 5, 14, 15, 16, 17, 18, 19, 20, 21, 22, 23, 24, 25, 26, 27, 28, 29, 30, 31, 32, 33, 34, 35, 36, 37, 38, 39, 40, 41] (fun k => n1 - k) 0 ?_ ?_ ?_))
  ·refine env_start (by kernel_rfl)
  ·rintro w' hw
   obtain ⟨F', hF', hst'⟩ := hw.sel (M := []) (by repeat (first | exact Sel.nil | (apply Sel.cons; · (repeat (first | exact Pick.here | apply Pick.there))))); exact ⟨F', stars_pure_mk ⟨Nat.zero_le _, rfl⟩ hF', hst'⟩
  ·intro k u; refine gc_pureR (fun hk => ?_)
   replace hk : k ≤ n1 ∧ l1.take k = l2.take k := hk
   refine gsr (gp zlt ?_); refine gnt (gc_seq (gif rfl (fun hc14 => ?_) (fun hc14 => ?_)))
   ·have hk' : k < n1 := by (try simp only at hc14); omega
    obtain ⟨g1, o1, cs1, x, ha1, hA1, hg1, hra1, hcl1, hl1, hrd1⟩ := hx.elem (by decide) hk'; obtain ⟨g2, o2, cs2, y, ha2, hA2, hg2, hra2, hcl2, hl2, hrd2⟩ := hy.elem (i := k) (by decide) (by omega); subst ha1; subst ha2; obtain ⟨s1, rfl, hs1⟩ := hrd1; obtain ⟨s2, rfl, hs2⟩ := hrd2; refine gc_skip (gx_then (gc_seq (gc_block (gsr (zxm ?_))))); refine zxa ?_; refine gnt (gc_seq ?_); by_cases hsp6 : x.who = y.who
    ·refine gc_regionT 22 (by kernel_rfl) (by kernel_rfl) ?_; refine sp zmv ?_; refine sp zmv ?_; refine sp (r_indexAddr_slice rfl rfl Ty.sl_45 Ty.sz_174 (by omega) (by omega)) ?_; refine sp zfa ?_; refine sp (r_ld1o rfl Ty.row_3 (range_at hra1 (j := 0) (by first | rfl | (simp only [List.getElem?_cons_succ, List.getElem?_cons_zero, List.cons_append, List.append_assoc, get_dc, get_L, Nat.reduceLeDiff, Nat.reduceSub, Nat.reduceAdd, Nat.le_refl]; rfl))) hA1) ?_
     refine sp zmv ?_; refine sp zmv ?_; refine sp (r_indexAddr_slice rfl rfl Ty.sl_45 Ty.sz_174 (by omega) (by omega)) ?_; refine sp zfa ?_; refine sp (r_ld1o rfl Ty.row_3 (range_at hra2 (j := 0) (by first | rfl | (simp only [List.getElem?_cons_succ, List.getElem?_cons_zero, List.cons_append, List.append_assoc, get_dc, get_L, Nat.reduceLeDiff, Nat.reduceSub, Nat.reduceAdd, Nat.le_refl]; rfl))) hA2) ?_
     refine sp (r_bool (b := !decide (x.who = y.who)) (c := false) (r_neq_int rfl rfl) (by simp [hsp6])) ?_; refine sp zmv ?_; refine sq zmv ?_; refine sq zmv ?_; refine sq (r_indexAddr_slice rfl rfl Ty.sl_45 Ty.sz_174 (by omega) (by omega)) ?_; refine sq zfa ?_; refine sq (r_ldNo rfl Ty.row_172 Ty.sz_172 (range_right (xs := [_]) hra1) hs1.len (by decide) hA1) ?_; refine sq zmv ?_; refine sq zmv ?_; refine sq (r_indexAddr_slice rfl rfl Ty.sl_45 Ty.sz_174 (by omega) (by omega)) ?_; refine sq zfa ?_; refine sq (r_ldNo rfl Ty.row_172 Ty.sz_172 (range_right (xs := [_]) hra2) hs2.len (by decide) hA2) ?_; refine gs_nil ?_; refine zc (fun _ => ?_) (c := fun w1 F1 F2 h1 h2 hd hst => sameSig_ok (x := x.sig) (y := y.sig) h1 (hs1.mv hst.still) (hs2.mv hst.still))
     refine gq znt ?_; refine gp zpk ?_; refine gnt (gif rfl (fun hc40 => ?_) (fun hc40 => ?_))
     ·refine gsr (zxa ?_); refine gnt (gc_ret (gx_block_ret ?_)); refine gx_then_ret (gx_round_ret ?_); refine gx_block_ret ?_; refine gx_then_ret (gx_ret1 rfl (by conv => lhs; whnf) ?_); have e : decide (l1 = l2) = false := decide_eq_false (fun h => by rw [h, hl2] at hl1; exact (by simpa using hc40 : ¬ x.sig = y.sig) (by rw [Option.some.inj hl1]))
      rw [e]; exact ze ()
     ·refine gc_skip (gx_block_normal (gx_then (gc_region (gp zad ?_)))); refine zxm ?_; refine gl_nil (zrd (k + 1) ?_ ?_)
      ·show n1 - (k + 1) < n1 - k
       omega
      ·rintro w' hw
       obtain ⟨F', hF', hst'⟩ := hw.sel (M := []) (by repeat (first | exact Sel.nil | (apply Sel.cons; · (repeat (first | exact Pick.here | apply Pick.there))))); refine ⟨F', stars_pure_mk ⟨show k + 1 ≤ n1 by omega, ?_⟩ hF', hst'⟩
       have hxy : x = y := by (cases x; cases y; simp_all)
       subst hxy; exact take_eq_succ hk.2 hl1 hl2
    ·refine gc_regionT 22 (by kernel_rfl) (by kernel_rfl) ?_; refine sp zmv ?_; refine sp zmv ?_; refine sp (r_indexAddr_slice rfl rfl Ty.sl_45 Ty.sz_174 (by omega) (by omega)) ?_; refine sp zfa ?_; refine sp (r_ld1o rfl Ty.row_3 (range_at hra1 (j := 0) (by first | rfl | (simp only [List.getElem?_cons_succ, List.getElem?_cons_zero, List.cons_append, List.append_assoc, get_dc, get_L, Nat.reduceLeDiff, Nat.reduceSub, Nat.reduceAdd, Nat.le_refl]; rfl))) hA1) ?_
     refine sp zmv ?_; refine sp zmv ?_; refine sp (r_indexAddr_slice rfl rfl Ty.sl_45 Ty.sz_174 (by omega) (by omega)) ?_; refine sp zfa ?_; refine sp (r_ld1o rfl Ty.row_3 (range_at hra2 (j := 0) (by first | rfl | (simp only [List.getElem?_cons_succ, List.getElem?_cons_zero, List.cons_append, List.append_assoc, get_dc, get_L, Nat.reduceLeDiff, Nat.reduceSub, Nat.reduceAdd, Nat.le_refl]; rfl))) hA2) ?_
     refine sp (r_bool (b := !decide (x.who = y.who)) (c := true) (r_neq_int rfl rfl) (by simp [hsp6])) ?_; refine sp zmv ?_; refine sn ?_; refine sn ?_; refine sn ?_; refine sn ?_; refine sn ?_; refine sn ?_; refine sn ?_; refine sn ?_; refine sn ?_; refine sn ?_; refine gs_nil ?_; refine gn ?_; refine gn ?_; refine gp zpk ?_; refine gnt (gc_condT rfl rfl ?_); refine gsr (zxa ?_); refine gnt (gc_ret (gx_block_ret ?_)); refine gx_then_ret (gx_round_ret ?_); refine gx_block_ret ?_; refine gx_then_ret (gx_ret1 rfl (by conv => lhs; whnf) ?_); have e : decide (l1 = l2) = false := decide_eq_false (fun h => by rw [h, hl2] at hl1; exact hsp6 (by rw [Option.some.inj hl1]))
     rw [e]; exact ze ()
   ·refine gc_exit ?_; refine gx_then_exit ?_; refine gx_round_exit ?_; refine gx_block_hit ?_; refine gx_then (gsr (zxa ?_)); refine gnt (gc_ret (gx_ret1 rfl (by conv => lhs; whnf) ?_)); have e : decide (l1 = l2) = true := decide_eq_true (by have h1 := hk.2; have hk' : k = n1 := (by (try simp only at hc14); omega); rw [List.take_of_length_le (by omega), List.take_of_length_le (by omega)] at h1; exact h1)
    rw [e]; exact ze ()
theorem sameQC_ok {w : World} {F : Nat → Prop} {cs1 cs2 : List Value} {x y : QC} (h : stars [] w F) (hx : RdQC w (fun k => ¬ F k) cs1 x) (hy : RdQC w (fun k => ¬ F k) cs2 y) :
    Calls Tryz.prog 59 #[.agg cs1.toArray, .agg cs2.toArray] w (Post w F (fun _ : Unit => .bool (decide (x = y))) (fun _ => [])) := by
 obtain ⟨a1, n1, c1, rfl, hk1, hd1⟩ := hx; obtain ⟨b1, m1, d1, rfl, hj1, he1⟩ := hy; refine g_enter (env := [(0, .agg (List.toArray (.int .i64 x.epoch :: .int .i64 x.round :: (dc x.block ++ [.slice a1 n1 c1])))), (1, .agg (List.toArray (.int .i64 y.epoch :: .int .i64 y.round :: (dc y.block ++ [.slice b1 m1 d1]))))]) Tryz.func59 rfl h Tryz.ntmps59 rfl rfl ?_; refine gsr (zbN fun b2 => ?_); refine zbN fun b3 => ?_; refine zxa ?_; refine gnt (gc_seq ?_); by_cases hsq0 : x.epoch = y.epoch
 ·by_cases hsq1 : x.round = y.round
  ·by_cases hsq2 : x.block = y.block
   ·refine gc_region (gp zfa ?_); refine gp zl ?_; refine gp zfa ?_; refine gp zl ?_; refine gp (r_bool (r_eql_int rfl rfl) (decide_eq_true hsq0)) ?_; refine zxm ?_; refine gq zfa ?_; refine gq zl ?_; refine gq zfa ?_; refine gq zl ?_; refine gq (r_bool (r_eql_int rfl rfl) (decide_eq_true hsq1)) ?_; refine gp zpk ?_; refine zxm ?_; refine gq zfa ?_; refine gq zL ?_; refine gq zfa ?_; refine gq zL ?_; refine gq (r_bool (r_eql_dig rfl rfl Ty.arr_27 Ty.un_5 Ty.sz_5 (by kernel_rfl)) (decide_eq_true hsq2)) ?_; refine gp zpk ?_; refine zxm ?_; refine gq zfa ?_; refine gq zl ?_; refine gq zfa ?_; refine gq zl ?_; refine zc (fun _ => ?_) (c := fun w1 F1 F2 h1 h2 hd hst => sameSigneds_ok h1 (RdList.mv hd1 hst.still fun _ _ h => h.mv hst.still) (RdList.mv he1 hst.still fun _ _ h => h.mv hst.still))
    refine gp zpk ?_; refine zxa ?_; refine gnt (gc_ret (gx_ret1 rfl (by conv => lhs; whnf) ?_)); have e : decide (x = y) = decide (x.votes = y.votes) := by obtain ⟨⟩ := x; obtain ⟨⟩ := y; simp_all
    rw [e]; exact ze ()
   ·refine gc_region (gp zfa ?_); refine gp zl ?_; refine gp zfa ?_; refine gp zl ?_; refine gp (r_bool (r_eql_int rfl rfl) (decide_eq_true hsq0)) ?_; refine zxm ?_; refine gq zfa ?_; refine gq zl ?_; refine gq zfa ?_; refine gq zl ?_; refine gq (r_bool (r_eql_int rfl rfl) (decide_eq_true hsq1)) ?_; refine gp zpk ?_; refine zxm ?_; refine gq zfa ?_; refine gq zL ?_; refine gq zfa ?_; refine gq zL ?_; refine gq (r_bool (r_eql_dig rfl rfl Ty.arr_27 Ty.un_5 Ty.sz_5 (by kernel_rfl)) (decide_eq_false hsq2)) ?_; refine gp zpk ?_; refine zxm ?_; refine gn ?_; refine gn ?_; refine gn ?_; refine gn ?_; refine gn ?_; refine gp zpk ?_; refine zxa ?_; refine gnt (gc_ret (gx_ret1 rfl (by conv => lhs; whnf) ?_)); have e : decide (x = y) = false := decide_eq_false (fun h => hsq2 (by rw [h]))
    rw [e]; exact ze ()
  ·refine gc_region (gp zfa ?_); refine gp zl ?_; refine gp zfa ?_; refine gp zl ?_; refine gp (r_bool (r_eql_int rfl rfl) (decide_eq_true hsq0)) ?_; refine zxm ?_; refine gq zfa ?_; refine gq zl ?_; refine gq zfa ?_; refine gq zl ?_; refine gq (r_bool (r_eql_int rfl rfl) (decide_eq_false hsq1)) ?_; refine gp zpk ?_; refine zxm ?_; refine gn ?_; refine gn ?_; refine gn ?_; refine gn ?_; refine gn ?_; refine gp zpk ?_; refine zxm ?_; refine gn ?_; refine gn ?_; refine gn ?_; refine gn ?_; refine gn ?_; refine gp zpk ?_; refine zxa ?_; refine gnt (gc_ret (gx_ret1 rfl (by conv => lhs; whnf) ?_)); have e : decide (x = y) = false := decide_eq_false (fun h => hsq1 (by rw [h]))
   rw [e]; exact ze ()
 ·refine gc_region (gp zfa ?_); refine gp zl ?_; refine gp zfa ?_; refine gp zl ?_; refine gp (r_bool (r_eql_int rfl rfl) (decide_eq_false hsq0)) ?_; refine zxm ?_; refine gn ?_; refine gn ?_; refine gn ?_; refine gn ?_; refine gn ?_; refine gp zpk ?_; refine zxm ?_; refine gn ?_; refine gn ?_; refine gn ?_; refine gn ?_; refine gn ?_; refine gp zpk ?_; refine zxm ?_; refine gn ?_; refine gn ?_; refine gn ?_; refine gn ?_; refine gn ?_; refine gp zpk ?_; refine zxa ?_; refine gnt (gc_ret (gx_ret1 rfl (by conv => lhs; whnf) ?_)); have e : decide (x = y) = false := decide_eq_false (fun h => hsq0 (by rw [h]))
  rw [e]; exact ze ()
theorem sameBlock_ok {w : World} {F : Nat → Prop} {cs1 cs2 : List Value} {x y : Block} (h : stars [] w F) (hx : RdBlock w (fun k => ¬ F k) cs1 x) (hy : RdBlock w (fun k => ¬ F k) cs2 y) :
    Calls Tryz.prog 31 #[.agg cs1.toArray, .agg cs2.toArray] w (Post w F (fun _ : Unit => .bool (decide (x = y))) (fun _ => [])) := by
 obtain ⟨q, a1, n1, c1, a2, n2, c2, rfl, hq, hk1, hd1, hk2, hd2⟩ := hx; obtain ⟨r, b1, m1, d1, b2, m2, d2, rfl, hr, hj1, he1, hj2, he2⟩ := hy; have lq := hq.len
 have lr := hr.len
 have z_lq := Len.of lq
 have z_lr := Len.of lr
 refine g_enter (env := [(0, .agg (List.toArray (.int .i64 x.epoch :: .int .i64 x.round :: (dc x.parent ++ (q ++ [.slice a1 n1 c1, .slice a2 n2 c2]))))), (1, .agg (List.toArray (.int .i64 y.epoch :: .int .i64 y.round :: (dc y.parent ++ (r ++ [.slice b1 m1 d1, .slice b2 m2 d2])))))]) Tryz.func31 rfl h Tryz.ntmps31 rfl rfl ?_; refine gsr (zbN fun b2 => ?_); refine zbN fun b3 => ?_; refine zxa ?_; refine gnt (gc_seq ?_); by_cases hsq0 : x.epoch = y.epoch
 ·by_cases hsq1 : x.round = y.round
  ·by_cases hsq2 : x.parent = y.parent
   ·by_cases hsq3 : x.justify = y.justify
    ·by_cases hsq4 : x.payload = y.payload
     ·refine gc_region (gp zfa ?_); refine gp zl ?_; refine gp zfa ?_; refine gp zl ?_; refine gp (r_bool (r_eql_int rfl rfl) (decide_eq_true hsq0)) ?_; refine zxm ?_; refine gq zfa ?_; refine gq zl ?_; refine gq zfa ?_; refine gq zl ?_; refine gq (r_bool (r_eql_int rfl rfl) (decide_eq_true hsq1)) ?_; refine gp zpk ?_; refine zxm ?_; refine gq zfa ?_; refine gq zL ?_; refine gq zfa ?_; refine gq zL ?_; refine gq (r_bool (r_eql_dig rfl rfl Ty.arr_27 Ty.un_5 Ty.sz_5 (by kernel_rfl)) (decide_eq_true hsq2)) ?_; refine gp zpk ?_; refine zxm ?_; refine gq zfa ?_; refine gq zL ?_; refine gq zfa ?_; refine gq zL ?_; refine zc (fun _ => ?_) (c := fun w1 F1 F2 h1 h2 hd hst => sameQC_ok h1 (hq.mv hst.still) (hr.mv hst.still))
      rw [decide_eq_true hsq3]; refine gp zpk ?_; refine zxm ?_; refine gq zfa ?_; refine gq zl ?_; refine gq zfa ?_; refine gq zl ?_; refine zc (fun _ => ?_) (c := fun w1 F1 F2 h1 h2 hd hst => sameLists_ok h1 (RdList.mv hd1 hst.still fun _ _ h => h.mv hst.still) (RdList.mv he1 hst.still fun _ _ h => h.mv hst.still))
      rw [decide_eq_true hsq4]; refine gp zpk ?_; refine zxm ?_; refine gq zfa ?_; refine gq zl ?_; refine gq zfa ?_; refine gq zl ?_; refine zc (fun _ => ?_) (c := fun w1 F1 F2 h1 h2 hd hst => sameVdrs_ok h1 (RdList.mv hd2 hst.still fun _ _ h => h) (RdList.mv he2 hst.still fun _ _ h => h))
      refine gp zpk ?_; refine zxa ?_; refine gnt (gc_ret (gx_ret1 rfl (by conv => lhs; whnf) ?_)); have e : decide (x = y) = decide (x.next = y.next) := by obtain ⟨⟩ := x; obtain ⟨⟩ := y; simp_all
      rw [e]; exact ze ()
     ·refine gc_region (gp zfa ?_); refine gp zl ?_; refine gp zfa ?_; refine gp zl ?_; refine gp (r_bool (r_eql_int rfl rfl) (decide_eq_true hsq0)) ?_; refine zxm ?_; refine gq zfa ?_; refine gq zl ?_; refine gq zfa ?_; refine gq zl ?_; refine gq (r_bool (r_eql_int rfl rfl) (decide_eq_true hsq1)) ?_; refine gp zpk ?_; refine zxm ?_; refine gq zfa ?_; refine gq zL ?_; refine gq zfa ?_; refine gq zL ?_; refine gq (r_bool (r_eql_dig rfl rfl Ty.arr_27 Ty.un_5 Ty.sz_5 (by kernel_rfl)) (decide_eq_true hsq2)) ?_; refine gp zpk ?_; refine zxm ?_; refine gq zfa ?_; refine gq zL ?_; refine gq zfa ?_; refine gq zL ?_; refine zc (fun _ => ?_) (c := fun w1 F1 F2 h1 h2 hd hst => sameQC_ok h1 (hq.mv hst.still) (hr.mv hst.still))
      rw [decide_eq_true hsq3]; refine gp zpk ?_; refine zxm ?_; refine gq zfa ?_; refine gq zl ?_; refine gq zfa ?_; refine gq zl ?_; refine zc (fun _ => ?_) (c := fun w1 F1 F2 h1 h2 hd hst => sameLists_ok h1 (RdList.mv hd1 hst.still fun _ _ h => h.mv hst.still) (RdList.mv he1 hst.still fun _ _ h => h.mv hst.still))
      rw [decide_eq_false hsq4]; refine gp zpk ?_; refine zxm ?_; refine gn ?_; refine gn ?_; refine gn ?_; refine gn ?_; refine gn ?_; refine gp zpk ?_; refine zxa ?_; refine gnt (gc_ret (gx_ret1 rfl (by conv => lhs; whnf) ?_)); have e : decide (x = y) = false := decide_eq_false (fun h => hsq4 (by rw [h]))
      rw [e]; exact ze ()
    ·refine gc_region (gp zfa ?_); refine gp zl ?_; refine gp zfa ?_; refine gp zl ?_; refine gp (r_bool (r_eql_int rfl rfl) (decide_eq_true hsq0)) ?_; refine zxm ?_; refine gq zfa ?_; refine gq zl ?_; refine gq zfa ?_; refine gq zl ?_; refine gq (r_bool (r_eql_int rfl rfl) (decide_eq_true hsq1)) ?_; refine gp zpk ?_; refine zxm ?_; refine gq zfa ?_; refine gq zL ?_; refine gq zfa ?_; refine gq zL ?_; refine gq (r_bool (r_eql_dig rfl rfl Ty.arr_27 Ty.un_5 Ty.sz_5 (by kernel_rfl)) (decide_eq_true hsq2)) ?_; refine gp zpk ?_; refine zxm ?_; refine gq zfa ?_; refine gq zL ?_; refine gq zfa ?_; refine gq zL ?_; refine zc (fun _ => ?_) (c := fun w1 F1 F2 h1 h2 hd hst => sameQC_ok h1 (hq.mv hst.still) (hr.mv hst.still))
     rw [decide_eq_false hsq3]; refine gp zpk ?_; refine zxm ?_; refine gn ?_; refine gn ?_; refine gn ?_; refine gn ?_; refine gn ?_; refine gp zpk ?_; refine zxm ?_; refine gn ?_; refine gn ?_; refine gn ?_; refine gn ?_; refine gn ?_; refine gp zpk ?_; refine zxa ?_; refine gnt (gc_ret (gx_ret1 rfl (by conv => lhs; whnf) ?_)); have e : decide (x = y) = false := decide_eq_false (fun h => hsq3 (by rw [h]))
     rw [e]; exact ze ()
   ·refine gc_region (gp zfa ?_); refine gp zl ?_; refine gp zfa ?_; refine gp zl ?_; refine gp (r_bool (r_eql_int rfl rfl) (decide_eq_true hsq0)) ?_; refine zxm ?_; refine gq zfa ?_; refine gq zl ?_; refine gq zfa ?_; refine gq zl ?_; refine gq (r_bool (r_eql_int rfl rfl) (decide_eq_true hsq1)) ?_; refine gp zpk ?_; refine zxm ?_; refine gq zfa ?_; refine gq zL ?_; refine gq zfa ?_; refine gq zL ?_; refine gq (r_bool (r_eql_dig rfl rfl Ty.arr_27 Ty.un_5 Ty.sz_5 (by kernel_rfl)) (decide_eq_false hsq2)) ?_; refine gp zpk ?_; refine zxm ?_; refine gn ?_; refine gn ?_; refine gn ?_; refine gn ?_; refine gn ?_; refine gp zpk ?_; refine zxm ?_; refine gn ?_; refine gn ?_; refine gn ?_; refine gn ?_; refine gn ?_; refine gp zpk ?_; refine zxm ?_; refine gn ?_; refine gn ?_; refine gn ?_; refine gn ?_; refine gn ?_; refine gp zpk ?_; refine zxa ?_; refine gnt (gc_ret (gx_ret1 rfl (by conv => lhs; whnf) ?_)); have e : decide (x = y) = false := decide_eq_false (fun h => hsq2 (by rw [h]))
    rw [e]; exact ze ()
  ·refine gc_region (gp zfa ?_); refine gp zl ?_; refine gp zfa ?_; refine gp zl ?_; refine gp (r_bool (r_eql_int rfl rfl) (decide_eq_true hsq0)) ?_; refine zxm ?_; refine gq zfa ?_; refine gq zl ?_; refine gq zfa ?_; refine gq zl ?_; refine gq (r_bool (r_eql_int rfl rfl) (decide_eq_false hsq1)) ?_; refine gp zpk ?_; refine zxm ?_; refine gn ?_; refine gn ?_; refine gn ?_; refine gn ?_; refine gn ?_; refine gp zpk ?_; refine zxm ?_; refine gn ?_; refine gn ?_; refine gn ?_; refine gn ?_; refine gn ?_; refine gp zpk ?_; refine zxm ?_; refine gn ?_; refine gn ?_; refine gn ?_; refine gn ?_; refine gn ?_; refine gp zpk ?_; refine zxm ?_; refine gn ?_; refine gn ?_; refine gn ?_; refine gn ?_; refine gn ?_; refine gp zpk ?_; refine zxa ?_; refine gnt (gc_ret (gx_ret1 rfl (by conv => lhs; whnf) ?_)); have e : decide (x = y) = false := decide_eq_false (fun h => hsq1 (by rw [h]))
   rw [e]; exact ze ()
 ·refine gc_region (gp zfa ?_); refine gp zl ?_; refine gp zfa ?_; refine gp zl ?_; refine gp (r_bool (r_eql_int rfl rfl) (decide_eq_false hsq0)) ?_; refine zxm ?_; refine gn ?_; refine gn ?_; refine gn ?_; refine gn ?_; refine gn ?_; refine gp zpk ?_; refine zxm ?_; refine gn ?_; refine gn ?_; refine gn ?_; refine gn ?_; refine gn ?_; refine gp zpk ?_; refine zxm ?_; refine gn ?_; refine gn ?_; refine gn ?_; refine gn ?_; refine gn ?_; refine gp zpk ?_; refine zxm ?_; refine gn ?_; refine gn ?_; refine gn ?_; refine gn ?_; refine gn ?_; refine gp zpk ?_; refine zxm ?_; refine gn ?_; refine gn ?_; refine gn ?_; refine gn ?_; refine gn ?_; refine gp zpk ?_; refine zxa ?_; refine gnt (gc_ret (gx_ret1 rfl (by conv => lhs; whnf) ?_)); have e : decide (x = y) = false := decide_eq_false (fun h => hsq0 (by rw [h]))
  rw [e]; exact ze ()
end
section
attribute [local irreducible] Gl Gc Gx Gs Runs Wt
attribute [local irreducible] dc qcC blkC
theorem rfits_ok {w : World} {F : Nat → Prop} {w' w2 : World} {A A2 : Nat → Prop} {qs cs : List Value} {q : QC} {b : Block} {d : Dig} (h : stars [] w F) (hq : RdQC w' A qs q) (hx : RdBlock w2 A2 cs b) :
    Calls Tryz.prog 55 #[.agg qs.toArray, .agg (List.toArray (dc d ++ cs))] w (Post w F (fun _ : Unit => .bool (fitsQ q d b)) (fun _ => [])) := by
 obtain ⟨av, nv, kv, rfl, hq1, hq2⟩ := hq; obtain ⟨j, a1, n1, c1, a2, n2, c2, rfl, hx1, hx2, hx3, hx4, hx5⟩ := hx; have ilq := Len.of hx1.len
 have jlq := One.of hx1.one
 refine g_enter (env := [(0, _), (1, _)]) Tryz.func55 rfl h Tryz.ntmps55 rfl rfl ?_; refine gsr (zbN fun b2 => ?_); refine zbN fun b3 => ?_; refine zxa ?_; refine gnt (gc_seq ?_); by_cases hS1 : q.block = d
 ·by_cases hS2 : q.epoch = b.epoch
  ·by_cases hS3 : q.round = b.round
   ·refine gc_region (gp zfa ?_); refine gp zL ?_; refine gp zfa ?_; refine gp zL ?_; refine gp (r_bool (c := true) zed (by simp [hS1])) ?_; refine zxm ?_; refine gq zfa ?_; refine gq zl ?_; refine gq zfa ?_; refine gq zfa ?_; refine gq zl ?_; refine gq (r_bool (c := true) zei (by simp [hS2])) ?_; refine gp zpk ?_; refine zxm ?_; refine gq zfa ?_; refine gq zl ?_; refine gq zfa ?_; refine gq zfa ?_; refine gq zl ?_; refine gq (r_bool (c := true) zei (by simp [hS3])) ?_; refine gp zpk ?_; refine zxa ?_; refine gnt (gc_ret (gx_ret1 rfl (by conv => lhs; whnf) ?_)); exact fun w' hw => ⟨(), by simp [fitsQ, *], hw.z⟩
   ·refine gc_region (gp zfa ?_); refine gp zL ?_; refine gp zfa ?_; refine gp zL ?_; refine gp (r_bool (c := true) zed (by simp [hS1])) ?_; refine zxm ?_; refine gq zfa ?_; refine gq zl ?_; refine gq zfa ?_; refine gq zfa ?_; refine gq zl ?_; refine gq (r_bool (c := true) zei (by simp [hS2])) ?_; refine gp zpk ?_; refine zxm ?_; refine gq zfa ?_; refine gq zl ?_; refine gq zfa ?_; refine gq zfa ?_; refine gq zl ?_; refine gq (r_bool (c := false) zei (by simp [hS3])) ?_; refine gp zpk ?_; refine zxa ?_; refine gnt (gc_ret (gx_ret1 rfl (by conv => lhs; whnf) ?_)); exact fun w' hw => ⟨(), by simp [fitsQ, *], hw.z⟩
  ·refine gc_region (gp zfa ?_); refine gp zL ?_; refine gp zfa ?_; refine gp zL ?_; refine gp (r_bool (c := true) zed (by simp [hS1])) ?_; refine zxm ?_; refine gq zfa ?_; refine gq zl ?_; refine gq zfa ?_; refine gq zfa ?_; refine gq zl ?_; refine gq (r_bool (c := false) zei (by simp [hS2])) ?_; refine gp zpk ?_; refine zxm ?_; refine gn ?_; refine gn ?_; refine gn ?_; refine gn ?_; refine gn ?_; refine gn ?_; refine gp zpk ?_; refine zxa ?_; refine gnt (gc_ret (gx_ret1 rfl (by conv => lhs; whnf) ?_)); exact fun w' hw => ⟨(), by simp [fitsQ, *], hw.z⟩
 ·refine gc_region (gp zfa ?_); refine gp zL ?_; refine gp zfa ?_; refine gp zL ?_; refine gp (r_bool (c := false) zed (by simp [hS1])) ?_; refine zxm ?_; refine gn ?_; refine gn ?_; refine gn ?_; refine gn ?_; refine gn ?_; refine gn ?_; refine gp zpk ?_; refine zxm ?_; refine gn ?_; refine gn ?_; refine gn ?_; refine gn ?_; refine gn ?_; refine gn ?_; refine gp zpk ?_; refine zxa ?_; refine gnt (gc_ret (gx_ret1 rfl (by conv => lhs; whnf) ?_)); exact fun w' hw => ⟨(), by simp [fitsQ, *], hw.z⟩
end
section
attribute [local irreducible] Gl Gc Gx Gs Runs Wt
set_option maxHeartbeats 1000000 in
set_option maxRecDepth 20000 in
theorem rsum_ok {w : World} {F : Nat → Prop} {b : List UInt8} (h : stars [] w F) (hb : b.length ≤ 1099511627776) :
    Calls Tryz.prog 105 #[.string (str b)] w (Post w F (fun _ : Unit => .agg (fnc B8 32 (outByte (takes Kc v0 (refPad b)).1)).toArray) (fun _ => [])) := by
 have hp63 := padN_le b.length
 have hpl := refPad_length b
 refine g_enter (env := [(0, .string (str b))]) Tryz.func105 rfl h Tryz.ntmps105 rfl rfl ?_; refine gsr (zal fun b2 => ?_); refine zxs ?_; refine zxm ?_; refine gp zlS ?_; refine gp (r_int zci (wrap_u64 (by omega) (by omega))) ?_; refine gp (r_int (r_mul rfl rfl) (show IntKind.u64.wrap ((b.length : Int) * 8) = ((b.length * 8 : Nat) : Int) by rw [wrap_u64 (by omega) (by omega)]; omega)) ?_; refine zxa ?_; refine zxs ?_; refine zxm ?_; refine zob fun g28 c28 => ?_; refine ze1 fun b29 => ?_; refine zapo (news := [.int .u8 128]) (fun a30 c30 => ?_)
 refine zxa ?_; refine gnt (gc_seq (gc_block (gc_loop (α := Nat × Option Addr × Nat) (fun x => [pureR (x.1 ≤ padN b.length), rowR 5 1 x.2.1 (b.length + 1 + x.1) x.2.2 ((rPadRow b x.1).map B8), blk b2 161 (List.replicate 32 (.int .u8 0))]) (fun x => [(4, .slice x.2.1 (b.length + 1 + x.1) x.2.2)]) [31, 32, 33, 34, 35, 36, 37] (fun x => padN b.length - x.1) (0, a30, c30) ?_ ?_ ?_)))
 ·refine env_start (by kernel_rfl)
 ·exact zlq (Nat.zero_le _) (M' := [rowR 5 1 a30 (b.length + 1) c30 (b.map B8 ++ [.int .u8 128]), blk b2 161 (List.replicate 32 (.int .u8 0))]) (by simp [rPadRow]; rfl)
 ·intro x u; obtain ⟨k, a4, c4⟩ := x; refine gc_pureR (fun hk => ?_)
  replace hk : k ≤ padN b.length := hk
  refine gc_seq (gsr (zxm ?_)); refine gp (r_int zln (show ((b.length + 1 + k : Nat) : Int) = ((b.length + 1 + k : Nat) : Int) from rfl)) ?_; refine gp (r_int zrm (rem_nat (m := b.length + 1 + k) (k := 64))) ?_; refine gp zni ?_; refine gnt (gif rfl (fun hc34 => ?_) (fun hc34 => ?_))
  ·try simp only at hc34
   have hk' : k < padN b.length := by have := pad_hit' hk; omega
   refine gc_skip (gx_then (gc_block (gc_region (zxm ?_)))); refine ze1 fun b36 => ?_; refine zapo (news := [.int .u8 0]) (fun a37 c37 => ?_)
   refine zxa ?_; refine gl_nil (gx_block_normal (zrd ((k + 1, a37, c37)) ?_ ?_))
   ·show padN b.length - (k + 1) < padN b.length - k
    omega
   ·exact zlq (show k + 1 ≤ padN b.length by omega) (by rw [rPadRow_succ] <;> rfl)
  ·try simp only at hc34
   have hk' : k = padN b.length := by have := pad_hit' hk; omega
   subst hk'; refine gc_exit ?_; refine gx_then_exit ?_; refine gx_round_exit ?_; refine gx_block_hit ?_; refine gx_then (gc_seq (gsr (zxa ?_))); refine gnt (gc_block (gc_loop (α := Nat × Option Addr × Nat) (fun x => [pureR (x.1 ≤ 8), rowR 5 1 x.2.1 (b.length + 1 + padN b.length + x.1) x.2.2 ((rLenRow b x.1).map B8), blk b2 161 (List.replicate 32 (.int .u8 0))]) (fun x => [(4, .slice x.2.1 (b.length + 1 + padN b.length + x.1) x.2.2), (5, .int .i64 (x.1 : Int))]) [38, 39, 40, 41, 42, 43, 44, 45, 46, 47, 48, 49, 50, 51] (fun x => 8 - x.1) (0, a4, c4) ?_ ?_ ?_))
   ·refine env_start (by kernel_rfl)
   ·exact zlq (Nat.zero_le _) (by rw [rLenRow_zero] <;> rfl)
   ·intro x u; obtain ⟨k, a5, c5⟩ := x; refine gc_pureR (fun hk => ?_)
    replace hk : k ≤ 8 := hk
    refine gc_seq (gsr (zxm ?_)); refine gp zlt ?_; refine gnt (gif rfl (fun hc39 => ?_) (fun hc39 => ?_))
    ·try simp only at hc39
     have hk' : k < 8 := by omega
     refine gc_skip (gx_then (gc_seq (gc_block (gc_region (zxm ?_))))); refine zxm ?_; refine zxm ?_; refine gp zml ?_; refine gp zsb ?_; refine gp (r_int zci (show IntKind.u64.wrap (56 - 8 * (k : Int)) = 8 * (7 - (k : Int)) by rw [wrap_u64 (by omega) (by omega)]; omega)) ?_; refine gp zhr ?_; refine gp (r_val zci (byte_shrU (j := 7 - k) (i := 7 - (k : Int)) (by omega) (by omega))) ?_; refine ze1 fun b50 => ?_; refine zapo (news := [B8 (UInt8.ofNat (b.length * 8 / 2 ^ (8 * (7 - k))))]) (fun a51 c51 => ?_)
     refine zxa ?_; refine gl_nil (gx_block_normal (gx_then (gc_region (zxm ?_)))); refine gp zad ?_; refine zxa ?_; refine gl_nil (zrd ((k + 1, a51, c51)) ?_ ?_)
     ·show 8 - (k + 1) < 8 - k
      omega
     ·exact zlq (show k + 1 ≤ 8 by omega) (by rw [rLenRow_succ] <;> rfl)
    ·try simp only at hc39
     have hk' : k = 8 := by omega
     subst hk'; refine gc_exit ?_; refine gx_then_exit ?_; refine gx_round_exit ?_; refine gx_block_hit ?_; refine gx_then (gsr (gp (r_buildA (cs := List.replicate 64 (.int .u32 0)) Ty.zc_223 Ty.arr_223 Ty.sz_191 (by kernel_rfl)) ?_)); refine zal fun b6 => ?_; refine zsA (new := List.replicate 64 (.int .u32 0)) List.length_replicate (rep_one rfl) ?_; refine zxs ?_; refine gp (r_buildA (cs := v8c v0) Ty.zc_192 Ty.arr_192 Ty.sz_191 (by kernel_rfl)) ?_; refine zal fun b7 => ?_; refine zsA (v8c_length _) (v8c_one _) ?_; refine zxs ?_; refine gp (r_buildA (cs := List.replicate 64 (.int .u32 0)) Ty.zc_223 Ty.arr_223 Ty.sz_191 (by kernel_rfl)) ?_; refine zal fun b8 => ?_; refine zsA (new := List.replicate 64 (.int .u32 0)) List.length_replicate (rep_one rfl) ?_; refine gnt (gc_seq (gsr (zxm ?_))); refine gnt (gc_block (gc_loop (α := Nat) (fun k => [pureR (k ≤ 64), blk b8 223 (fnc W32 64 (pfx Kc (fun _ => 0) k)), blk b7 192 (v8c v0), blk b6 223 (List.replicate 64 (.int .u32 0)), rowR 5 1 a5 (b.length + 1 + padN b.length + 8) c5 ((refPad b).map B8), blk b2 161 (List.replicate 32 (.int .u8 0))]) (fun k => [(55, .int .i64 (k : Int))]) [9, 56, 57, 58, 59, 60, 61, 62] (fun k => 64 - k) 0 ?_ ?_ ?_))
     ·refine env_start (by kernel_rfl)
     ·exact zlq (Nat.zero_le _) (M' := [blk b8 223 (List.replicate 64 (.int .u32 0)), blk b7 192 (v8c v0), blk b6 223 (List.replicate 64 (.int .u32 0)), rowR 5 1 a5 (b.length + 1 + padN b.length + 8) c5 ((refPad b).map B8), blk b2 161 (List.replicate 32 (.int .u8 0))]) (by rw [pfx_zero, fnc_const] <;> rfl)
     ·intro k u; refine gc_pureR (fun hk => ?_)
      replace hk : k ≤ 64 := hk
      refine gsr (gp zlt ?_); refine gnt (gc_seq (gif rfl (fun hc56 => ?_) (fun hc56 => ?_)))
      ·try simp only at hc56
       have hk' : k < 64 := by omega
       refine gc_skip (gx_then (gc_seq (gc_block (gsr (zxm ?_))))); refine zxa ?_; refine gnt (gc_region (zxm ?_)); refine zxm ?_; refine zc (fun _ => ?_) (c := fun w1 F1 F2 h1 h2 hd hst => k_ok (i := k) h1 hk')
       refine gp (r_indexAddr_arr rfl rfl Ty.arr_223 Ty.sz_191 (by omega) (by omega)) ?_; refine gl_store1 (wt0 rfl) rfl rfl rfl Ty.sz_191 (by repeat (first | exact Pick.here | apply Pick.there)) (by rw [fnc_length]; omega) (pfx_set (k := k) (by omega) (by omega) rfl) ?_; refine gl_nil (gx_block_normal (gx_then (gc_region (gp zad ?_)))); refine zxm ?_; refine gl_nil (zrd (k + 1) ?_ ?_)
       ·show 64 - (k + 1) < 64 - k
        omega
       ·exact zlp (show k + 1 ≤ 64 by omega)
      ·try simp only at hc56
       have hk' : k = 64 := by omega
       subst hk'; refine gc_exit ?_; refine gx_then_exit ?_; refine gx_round_exit ?_; refine gx_block_hit ?_; refine gx_then (gc_seq (gc_block (gc_loop (α := V8 × List UInt8 × Option Addr × Nat × Nat × (Nat → UInt32)) (fun x => [pureR (takes Kc x.1 x.2.1 = takes Kc v0 (refPad b) ∧ x.2.1.length % 64 = 0 ∧ x.2.1.length ≤ 1099511627906 ∧ x.2.2.2.1 = x.2.1.length), rowR 5 1 x.2.2.1 x.2.2.2.1 x.2.2.2.2.1 (x.2.1.map B8), blk b6 223 (fnc W32 64 x.2.2.2.2.2), blk b7 192 (v8c x.1), blk b8 223 (fnc W32 64 Kc), blk b2 161 (List.replicate 32 (.int .u8 0))]) (fun x => [(4, .slice x.2.2.1 x.2.2.2.1 x.2.2.2.2.1)]) [10, 11, 12, 13, 14, 15, 16, 17, 18, 19, 20, 63, 64, 65, 66, 67, 68, 69, 70, 71, 72, 73, 74, 75, 76, 77, 78, 79, 80, 81, 82, 83, 84, 85, 86, 87, 88, 89, 90, 91, 92, 93, 94, 95, 96, 97, 98, 99, 100, 101, 102, 103, 104, 105, 106, 107, 108, 109, 110, 111, 112, 113, 114, 115, 116, 117, 118, 119, 120, 121, 122, 123, 124, 125, 126, 127, 128, 129, 130, 131, 132, 133, 134, 135, 136, 137, 138, 139, 140, 141, 142, 143, 144, 145, 146, 147, 148, 149, 150, 151, 152, 153, 154, 155, 156, 157, 158, 159, 160, 161, 162, 163, 164, 165, 166, 167, 168, 169, 170, 171, 172, 173, 174, 175, 176, 177, 178, 179, 180, 181, 182, 183, 184, 185, 186, 187, 188, 189, 190, 191, 192, 193, 194, 195, 196, 197, 198, 199, 200, 201, 202, 203, 204, 205, 206, 207, 208, 209, 210, 211, 212, 213, 214, 215, 216, 217, 218, 219, 220, 221, 222, 223, 224, 225, 226, 227, 228, 229, 230, 231, 232, 233, 234, 235, 236, 237, 238, 239, 240, 241, 242, 243, 244, 245, 246, 247, 248, 249, 250] (fun x => x.2.1.length) (v0, refPad b, a5, b.length + 1 + padN b.length + 8, c5, fun _ => 0) ?_ ?_ ?_)))
       ·refine env_start (by kernel_rfl)
       ·exact zlq (M' := [rowR 5 1 a5 (b.length + 1 + padN b.length + 8) c5 ((refPad b).map B8), blk b6 223 (List.replicate 64 (.int .u32 0)), blk b7 192 (v8c v0), blk b8 223 (fnc W32 64 (pfx Kc (fun _ => 0) 64)), blk b2 161 (List.replicate 32 (.int .u8 0))]) ⟨rfl, (by show (refPad b).length % 64 = 0; have := (pad_hit' (m := b.length) (Nat.le_refl _)).2 rfl; omega), (by show (refPad b).length ≤ _; omega), hpl.symm⟩ (by rw [pfx_full]; simp only [fnc_const]; rfl)
       ·intro x u; obtain ⟨v, r, a6, n6, c6, T⟩ := x; refine gc_pureR (fun hk => ?_)
        replace hk : takes Kc v r = takes Kc v0 (refPad b) ∧ r.length % 64 = 0 ∧ r.length ≤ 1099511627906 ∧ n6 = r.length := hk
        obtain ⟨hko, hk64, hkb, rfl⟩ := hk; refine gc_fact (p := r.length ≤ c6) (fun w hw => (hw.rowLe (e := 5) (size := 1) (a := a6) (m := r.length) (c := c6) (xs := r.map B8) (by repeat (first | exact Pick.here | apply Pick.there))).1) (fun hc6 => ?_)
        refine gc_seq (gsr (zxm ?_)); refine gp zln ?_; refine gp zgt ?_; refine gnt (gif rfl (fun hc65 => ?_) (fun hc65 => ?_))
        ·try simp only at hc65
         have hk' : 64 ≤ r.length := by omega
         refine gc_fact (p := ∃ g o, a6 = some ⟨g, o, none⟩) (fun w hw => (by obtain ⟨g, o, e, _⟩ := (hw.row (a := a6) (m := r.length) (c := c6) (xs := r.map B8) (by repeat (first | exact Pick.here | apply Pick.there))).2.2 (by omega); exact ⟨g, o, e⟩)) (fun ha => ?_)
         obtain ⟨g6, o6, rfl⟩ := ha; refine gc_skip (gx_then (gc_block (gc_seq (gsr (zxa ?_))))); refine gnt (gc_block (gc_loop (α := Nat) (fun k => [pureR (k ≤ 16), blk b6 223 (fnc W32 64 (pfx (sch (r.take 64)) T k)), blk b7 192 (v8c v), blk b8 223 (fnc W32 64 Kc), blk b2 161 (List.replicate 32 (.int .u8 0)), rowR 5 1 (some ⟨g6, o6, none⟩) r.length c6 (r.map B8)]) (fun k => [(10, .int .i64 (k : Int))]) [66, 67, 68, 69, 70, 71, 72, 73, 74, 75, 76, 77, 78, 79, 80, 81, 82, 83, 84, 85, 86, 87, 88, 89, 90, 91, 92, 93, 94, 95, 96, 97, 98, 99, 100, 101, 102, 103, 104] (fun k => 16 - k) 0 ?_ ?_ ?_))
         ·refine env_start (by kernel_rfl)
         ·exact zlq (Nat.zero_le _) (by rw [pfx_zero])
         ·intro k u; refine gc_pureR (fun hk => ?_)
          replace hk : k ≤ 16 := hk
          refine gc_seq (gsr (zxm ?_)); refine gp zlt ?_; refine gnt (gif rfl (fun hc67 => ?_) (fun hc67 => ?_))
          ·try simp only at hc67
           have hk' : k < 16 := by omega
           refine gc_skip (gx_then (gc_seq (gc_block (gc_regionT 35 (by kernel_rfl) (by kernel_rfl) ?_)))); refine sp zmv ?_; refine sp zmv ?_; refine sp zmv ?_; refine sp zml ?_; refine sp (zia (m := r.length)) ?_; refine sp (r_ld1r (v := B8 (r.getD (4 * k) 0)) rfl Ty.row_5 (by repeat (first | exact Pick.here | apply Pick.there)) (row_byte (by omega) (by omega))) ?_; refine sp (r_conv8w rfl Ty.un_5 Ty.un_191) ?_; refine sp (r_mulw (b := 16777216) rfl rfl) ?_; refine sp zmv ?_; refine sp zmv ?_; refine sp zml ?_; refine sp zad ?_; refine sp (zia (m := r.length)) ?_; refine sp (r_ld1r (v := B8 (r.getD (4 * k + 1) 0)) rfl Ty.row_5 (by repeat (first | exact Pick.here | apply Pick.there)) (row_byte (by omega) (by omega))) ?_; refine sp (r_conv8w rfl Ty.un_5 Ty.un_191) ?_; refine sp (r_mulw (b := 65536) rfl rfl) ?_; refine sp zwa ?_; refine sp zmv ?_; refine sp zmv ?_; refine sp zml ?_; refine sp zad ?_; refine sp (zia (m := r.length)) ?_; refine sp (r_ld1r (v := B8 (r.getD (4 * k + 2) 0)) rfl Ty.row_5 (by repeat (first | exact Pick.here | apply Pick.there)) (row_byte (by omega) (by omega))) ?_; refine sp (r_conv8w rfl Ty.un_5 Ty.un_191) ?_; refine sp (r_mulw (b := 256) rfl rfl) ?_; refine sp zwa ?_; refine sp zmv ?_; refine sp zmv ?_; refine sp zml ?_; refine sp zad ?_; refine sp (zia (m := r.length)) ?_; refine sp (r_ld1r (v := B8 (r.getD (4 * k + 3) 0)) rfl Ty.row_5 (by repeat (first | exact Pick.here | apply Pick.there)) (row_byte (by omega) (by omega))) ?_; refine sp (r_conv8w rfl Ty.un_5 Ty.un_191) ?_; refine sp zwa ?_; refine sp (r_indexAddr_arr rfl rfl Ty.arr_223 Ty.sz_191 (by omega) (by omega)) ?_; refine gs_nil ?_; refine gl_store1 (wt0 rfl) rfl rfl rfl Ty.sz_191 (by repeat (first | exact Pick.here | apply Pick.there)) (by rw [fnc_length]; omega) (pfx_set (k := k) (by omega) (by omega) (congrArg W32 (word_take hk' (by omega)))) ?_; refine gl_nil (gx_block_normal (gx_then (gc_region (zxm ?_)))); refine gp zad ?_
           refine zxa ?_; refine gl_nil (zrd (k + 1) ?_ ?_)
           ·show 16 - (k + 1) < 16 - k
            omega
           ·exact zlp (show k + 1 ≤ 16 by omega)
          ·try simp only at hc67
           have hk' : k = 16 := by omega
           subst hk'; refine gc_exit ?_; refine gx_then_exit ?_; refine gx_round_exit ?_; refine gx_block_hit ?_; refine gx_then (gc_seq (gsr (zxa ?_))); refine gnt (gc_block (gc_loop (α := Nat) (fun k => [pureR (16 ≤ k ∧ k ≤ 64), blk b6 223 (fnc W32 64 (pfx (sch (r.take 64)) T k)), blk b7 192 (v8c v), blk b8 223 (fnc W32 64 Kc), blk b2 161 (List.replicate 32 (.int .u8 0)), rowR 5 1 (some ⟨g6, o6, none⟩) r.length c6 (r.map B8)]) (fun k => [(11, .int .i64 (k : Int))]) [12, 13, 105, 106, 107, 108, 109, 110, 111, 112, 113, 114, 115, 116, 117, 118, 119, 120, 121, 122, 123, 124, 125, 126, 127, 128, 129, 130, 131, 132, 133, 134, 135, 136, 137, 138, 139, 140, 141, 142, 143, 144, 145] (fun k => 64 - k) 16 ?_ ?_ ?_))
           ·refine env_start (by kernel_rfl)
           ·exact zlp ⟨Nat.le_refl _, by decide⟩
           ·intro k u; refine gc_pureR (fun hk => ?_)
            replace hk : 16 ≤ k ∧ k ≤ 64 := hk
            refine gc_seq (gsr (zxm ?_)); refine gp zlt ?_; refine gnt (gif rfl (fun hc106 => ?_) (fun hc106 => ?_))
            ·try simp only at hc106
             have hk' : k < 64 := by omega
             refine gc_skip (gx_then (gc_seq (gc_block (gc_seq (gc_regionS (by kernel_rfl) (by kernel_rfl) ?_))))); refine sp zmv ?_; refine sp zsb ?_; refine sp (r_indexAddr_arr rfl rfl Ty.arr_223 Ty.sz_191 (by omega) (by omega)) ?_; refine sp (r_ld1 (v := W32 (sch (r.take 64) (k - 15))) rfl Ty.row_191 (by repeat (first | exact Pick.here | apply Pick.there)) (pfx_get (by omega) (by omega) (by omega))) ?_; refine sp zmv ?_; refine sp zsb ?_; refine sp (r_indexAddr_arr rfl rfl Ty.arr_223 Ty.sz_191 (by omega) (by omega)) ?_; refine sp (r_ld1 (v := W32 (sch (r.take 64) (k - 2))) rfl Ty.row_191 (by repeat (first | exact Pick.here | apply Pick.there)) (pfx_get (by omega) (by omega) (by omega))) ?_; refine sp zas ?_; refine sp zas ?_; refine gs_nil ?_; refine gx_then (gc_regionZ 29 ([blk b6 223 (fnc W32 64 (pfx (sch (r.take 64)) T k))]) ?_); refine yps 0 rfl zmv ?_; refine yps 1 rfl zmv ?_; refine yps 2 rfl zsb ?_; refine yps 3 rfl (r_indexAddr_arr rfl rfl Ty.arr_223 Ty.sz_191 (by omega) (by omega)) ?_; refine yps 4 rfl (r_ld1 (v := W32 (sch (r.take 64) (k - 16))) rfl Ty.row_191 (by repeat (first | exact Pick.here | apply Pick.there)) (pfx_get (by omega) (by omega) (by omega))) ?_; refine yps 5 rfl zmv ?_; refine yps 7 rfl zmv ?_; refine yps 10 rfl zmv ?_; refine yps 11 rfl (r_shrw (j := 3) rfl rfl rfl (by decide)) ?_; refine yps 14 rfl zmv ?_; refine yps 15 rfl zsb ?_; refine yps 16 rfl (r_indexAddr_arr rfl rfl Ty.arr_223 Ty.sz_191 (by omega) (by omega)) ?_; refine yps 17 rfl (r_ld1 (v := W32 (sch (r.take 64) (k - 7))) rfl Ty.row_191 (by repeat (first | exact Pick.here | apply Pick.there)) (pfx_get (by omega) (by omega) (by omega))) ?_; refine yps 19 rfl zmv ?_; refine yps 21 rfl zmv ?_; refine yps 24 rfl zmv ?_; refine yps 25 rfl (r_shrw (j := 10) rfl rfl rfl (by decide)) ?_; refine yos 6 rfl ?_; refine zc (fun _ => ?_) (c := fun w1 F1 F2 h1 h2 hd hst => right_ok (j := 7) h1 (by decide) (by decide))
             refine yxs ?_; refine yos 8 rfl ?_; refine zc (fun _ => ?_) (c := fun w1 F1 F2 h1 h2 hd hst => right_ok (j := 18) h1 (by decide) (by decide))
             refine yxs ?_; refine yps 9 rfl zwx ?_; refine yps 12 rfl zwx ?_; refine yps 13 rfl zwa ?_; refine yps 18 rfl zwa ?_; refine yos 20 rfl ?_; refine zc (fun _ => ?_) (c := fun w1 F1 F2 h1 h2 hd hst => right_ok (j := 17) h1 (by decide) (by decide))
             refine yxs ?_; refine yos 22 rfl ?_; refine zc (fun _ => ?_) (c := fun w1 F1 F2 h1 h2 hd hst => right_ok (j := 19) h1 (by decide) (by decide))
             refine yxs ?_; refine yps 23 rfl zwx ?_; refine yps 26 rfl zwx ?_; refine yps 27 rfl zwa ?_; refine yps 28 rfl (r_indexAddr_arr rfl rfl Ty.arr_223 Ty.sz_191 (by omega) (by omega)) ?_; refine yzs rfl ?_; refine gl_store1 (wt0 rfl) rfl rfl rfl Ty.sz_191 (by repeat (first | exact Pick.here | apply Pick.there)) (by rw [fnc_length]; omega) (pfx_set (k := k) (by omega) (by omega) (congrArg W32 (sch_hi hk.1).symm)) ?_; refine gl_nil (gx_block_normal (gx_then (gc_region (zxm ?_)))); refine gp zad ?_; refine zxa ?_; refine gl_nil (zrd (k + 1) ?_ ?_)
             ·show 64 - (k + 1) < 64 - k
              omega
             ·exact zlp (show 16 ≤ k + 1 ∧ k + 1 ≤ 64 by omega)
            ·try simp only at hc106
             have hk' : k = 64 := by omega
             subst hk'; refine gc_exit ?_; refine gx_then_exit ?_; refine gx_round_exit ?_; refine gx_block_hit ?_; refine gx_then (gsr (gp (zLa (cs := v8c v)) ?_)); refine zal fun b14 => ?_; refine zsA (v8c_length _) (v8c_one _) ?_; refine gnt (gc_seq (gsr (zxa ?_))); refine gnt (gc_block (gc_loop (α := Nat) (fun k => [pureR (k ≤ 64), blk b14 192 (v8c (rnds Kc (sch (r.take 64)) v k)), blk b6 223 (fnc W32 64 (pfx (sch (r.take 64)) T 64)), blk b7 192 (v8c v), blk b8 223 (fnc W32 64 Kc), blk b2 161 (List.replicate 32 (.int .u8 0)), rowR 5 1 (some ⟨g6, o6, none⟩) r.length c6 (r.map B8)]) (fun k => [(15, .int .i64 (k : Int))]) [16, 17, 18, 19, 147, 148, 149, 150, 151, 152, 153, 154, 155, 156, 157, 158, 159, 160, 161, 162, 163, 164, 165, 166, 167, 168, 169, 170, 171, 172, 173, 174, 175, 176, 177, 178, 179, 180, 181, 182, 183, 184, 185, 186, 187, 188, 189, 190, 191, 192, 193, 194, 195, 196, 197, 198, 199, 200, 201, 202, 203, 204, 205, 206, 207, 208, 209, 210, 211, 212, 213, 214, 215, 216, 217, 218, 219, 220, 221, 222, 223, 224, 225, 226, 227, 228, 229, 230, 231, 232, 233, 234, 235, 236] (fun k => 64 - k) 0 ?_ ?_ ?_))
             ·refine env_start (by kernel_rfl)
             ·exact zlp (by first | exact Nat.zero_le _ | omega)
             ·intro k u; refine gc_pureR (fun hk => ?_)
              replace hk : k ≤ 64 := hk
              refine gc_seq (gsr (zxm ?_)); refine gp zlt ?_; refine gnt (gif rfl (fun hc148 => ?_) (fun hc148 => ?_))
              ·try simp only at hc148
               have hk' : k < 64 := by omega
               refine gc_skip (gx_then (gc_seq (gc_block (gsr (gp zib ?_))))); refine gp zl ?_; refine gp zib ?_; refine gp zl ?_; refine gp zwn ?_; refine gp zib ?_; refine gp zl ?_; refine gp zwc ?_; refine gp zib ?_; refine gp zl ?_; refine gp zwn ?_; refine gp zwx ?_; refine zxa ?_; refine zxs ?_; refine gp zib ?_; refine gp zl ?_; refine gp zib ?_; refine gp zl ?_; refine gp zwn ?_; refine gp zib ?_; refine gp zl ?_; refine gp zib ?_; refine gp zl ?_; refine gp zwn ?_; refine gp zwx ?_; refine gp zib ?_; refine gp zl ?_; refine gp zib ?_; refine gp zl ?_; refine gp zwn ?_; refine gp zwx ?_; refine zxa ?_; refine gnt (gc_seq (gc_regionZ 24 ([blk b14 192 (v8c (rnds Kc (sch (r.take 64)) v k)), blk b6 223 (fnc W32 64 (pfx (sch (r.take 64)) T 64)), blk b8 223 (fnc W32 64 Kc)]) ?_)); refine yps 0 rfl zib ?_; refine yps 1 rfl zl ?_; refine yps 2 rfl zib ?_; refine yps 3 rfl zl ?_; refine yps 5 rfl zib ?_; refine yps 6 rfl zl ?_; refine yps 9 rfl zib ?_; refine yps 10 rfl zl ?_; refine yps 14 rfl zmv ?_; refine yps 16 rfl zmv ?_; refine yps 17 rfl (r_indexAddr_arr rfl rfl Ty.arr_223 Ty.sz_191 (by omega) (by omega)) ?_; refine yps 18 rfl (r_ld1 (v := W32 (Kc k)) rfl Ty.row_191 (by repeat (first | exact Pick.here | apply Pick.there)) (by rw [show 0 + (k : Int).toNat * 1 = k by omega]; exact fnc_get hk')) ?_; refine yps 20 rfl zmv ?_; refine yps 21 rfl (r_indexAddr_arr rfl rfl Ty.arr_223 Ty.sz_191 (by omega) (by omega)) ?_; refine yps 22 rfl (r_ld1 (v := W32 (sch (r.take 64) (k))) rfl Ty.row_191 (by repeat (first | exact Pick.here | apply Pick.there)) (pfx_get (by omega) (by omega) (by omega))) ?_; refine yos 4 rfl ?_; refine zc (fun _ => ?_) (c := fun w1 F1 F2 h1 h2 hd hst => right_ok (j := 6) h1 (by decide) (by decide))
               refine yxs ?_; refine yos 7 rfl ?_; refine zc (fun _ => ?_) (c := fun w1 F1 F2 h1 h2 hd hst => right_ok (j := 11) h1 (by decide) (by decide))
               refine yxs ?_; refine yps 8 rfl zwx ?_; refine yos 11 rfl ?_; refine zc (fun _ => ?_) (c := fun w1 F1 F2 h1 h2 hd hst => right_ok (j := 25) h1 (by decide) (by decide))
               refine yxs ?_; refine yps 12 rfl zwx ?_; refine yps 13 rfl zwa ?_; refine yps 15 rfl zwa ?_; refine yps 19 rfl zwa ?_; refine yps 23 rfl zwa ?_; refine yzs rfl ?_; refine zxa ?_; refine gnt (gc_seq (gc_regionZ 13 ([blk b14 192 (v8c (rnds Kc (sch (r.take 64)) v k))]) ?_)); refine yps 0 rfl zib ?_; refine yps 1 rfl zl ?_; refine yps 3 rfl zib ?_; refine yps 4 rfl zl ?_; refine yps 7 rfl zib ?_; refine yps 8 rfl zl ?_; refine yps 11 rfl zmv ?_; refine yos 2 rfl ?_; refine zc (fun _ => ?_) (c := fun w1 F1 F2 h1 h2 hd hst => right_ok (j := 2) h1 (by decide) (by decide))
               refine yxs ?_; refine yos 5 rfl ?_; refine zc (fun _ => ?_) (c := fun w1 F1 F2 h1 h2 hd hst => right_ok (j := 13) h1 (by decide) (by decide))
               refine yxs ?_; refine yps 6 rfl zwx ?_; refine yos 9 rfl ?_; refine zc (fun _ => ?_) (c := fun w1 F1 F2 h1 h2 hd hst => right_ok (j := 22) h1 (by decide) (by decide))
               refine yxs ?_; refine yps 10 rfl zwx ?_; refine yps 12 rfl zwa ?_; refine yzs rfl ?_; refine zxa ?_; refine gnt (gc_region (zxm ?_)); refine zxm ?_; refine gp zwa ?_; refine gp zib ?_; refine gp zl ?_; refine gp zib ?_; refine gp zl ?_; refine gp zib ?_; refine gp zl ?_; refine gp zib ?_; refine gp zl ?_; refine zxm ?_; refine gp zwa ?_; refine gp zib ?_; refine gp zl ?_; refine gp zib ?_; refine gp zl ?_; refine gp zib ?_; refine gp zl ?_; refine gp (r_buildA (cs := v8c (rnds Kc (sch (r.take 64)) v (k + 1))) Ty.zc_192 Ty.arr_192 Ty.sz_191 rfl) ?_; refine zsA (v8c_length _) (v8c_one _) ?_; refine gl_nil (gx_block_normal (gx_then (gc_region (zxm ?_)))); refine gp zad ?_; refine zxa ?_; refine gl_nil (zrd (k + 1) ?_ ?_)
               ·show 64 - (k + 1) < 64 - k
                omega
               ·exact zlp (show k + 1 ≤ 64 by omega)
              ·try simp only at hc148
               have hk' : k = 64 := by omega
               subst hk'; refine gc_exit ?_; refine gx_then_exit ?_; refine gx_round_exit ?_; refine gx_block_hit ?_; refine gx_then (gc_seq (gsr (zxm ?_))); refine gnt (gc_block ?_); generalize hV : rnds Kc (sch (r.take 64)) v 64 = V
               refine gc_loop (α := Nat) (fun k => [pureR (k ≤ 8), blk b7 192 (fnc W32 8 (pfx (v.add V).get v.get k)), blk b14 192 (v8c V), blk b6 223 (fnc W32 64 (pfx (sch (r.take 64)) T 64)), blk b8 223 (fnc W32 64 Kc), blk b2 161 (List.replicate 32 (.int .u8 0)), rowR 5 1 (some ⟨g6, o6, none⟩) r.length c6 (r.map B8)]) (fun k => [(237, .int .i64 (k : Int))]) [20, 238, 239, 240, 241, 242, 243, 244, 245, 246, 247, 248] (fun k => 8 - k) 0 ?_ ?_ ?_
               ·refine env_start (by kernel_rfl)
               ·exact zlq (Nat.zero_le _) (by rw [pfx_zero] <;> rfl)
               ·intro k u; refine gc_pureR (fun hk => ?_)
                replace hk : k ≤ 8 := hk
                refine gsr (gp zlt ?_); refine gnt (gc_seq (gif rfl (fun hc238 => ?_) (fun hc238 => ?_)))
                ·try simp only at hc238
                 have hk' : k < 8 := by omega
                 refine gc_skip (gx_then (gc_seq (gc_block (gsr (zxm ?_))))); refine zxa ?_; refine gnt (gc_regionT 8 (by kernel_rfl) (by kernel_rfl) ?_); refine sp zmv ?_; refine sp (r_indexAddr_arr rfl rfl Ty.arr_192 Ty.sz_191 (by omega) (by omega)) ?_; refine sp (r_ld1 (v := W32 (v.get k)) rfl Ty.row_191 (by repeat (first | exact Pick.here | apply Pick.there)) (pfx_get2 (by omega) (by omega) (by omega))) ?_; refine sp zmv ?_; refine sp (r_indexAddr_arr rfl rfl Ty.arr_192 Ty.sz_191 (by omega) (by omega)) ?_; refine sp (r_ld1 (v := W32 (V.get k)) rfl Ty.row_191 (by repeat (first | exact Pick.here | apply Pick.there)) (by rw [show 0 + (k : Int).toNat * 1 = k by omega]; exact fnc_get (V := W32) (f := V.get) hk')) ?_; refine sp zwa ?_; refine sp (r_indexAddr_arr rfl rfl Ty.arr_192 Ty.sz_191 (by omega) (by omega)) ?_; refine gs_nil ?_; refine gl_store1 (wt0 rfl) rfl rfl rfl Ty.sz_191 (by repeat (first | exact Pick.here | apply Pick.there)) (by rw [fnc_length]; omega) (pfx_set (k := k) (by omega) (by omega) (congrArg W32 (V8.add_get _ _ _).symm)) ?_; refine gl_nil (gx_block_normal (gx_then (gc_region (gp zad ?_)))); refine zxm ?_; refine gl_nil (zrd (k + 1) ?_ ?_)
                 ·show 8 - (k + 1) < 8 - k
                  omega
                 ·exact zlp (show k + 1 ≤ 8 by omega)
                ·try simp only at hc238
                 have hk' : k = 8 := by omega
                 subst hk'; have e8 : fnc W32 8 (pfx (v.add V).get v.get 8) = v8c (take64 Kc v (r.take 64)) := by rw [pfx_full, ← hV]; rfl
                 rw [e8]; refine gc_exit ?_; refine gx_then_exit ?_; refine gx_round_exit ?_; refine gx_block_hit ?_; refine gx_then (gc_region (zxm ?_)); refine gp (r_slice_slice (a := some ⟨g6, o6, none⟩) (m := r.length) (c := c6) (l := 64) (h := r.length) rfl Ty.sl_68 Ty.sz_5 ⟨_, rfl⟩ rfl (by omega) (by omega)) ?_; refine zxa ?_; refine gl_nil (gx_block_normal ?_); have hdl : (r.drop 64).length = r.length - 64 := List.length_drop
                 refine zrd ((take64 Kc v (r.take 64), r.drop 64, (if c6 = 64 then some ⟨g6, o6, none⟩ else (some (⟨g6, o6, none⟩ : Addr)).map (·.add (64 * 1))), r.length - 64, c6 - 64, sch (r.take 64))) ?_ ?_
                 ·show (r.drop 64).length < r.length
                  omega
                 ·rintro w' hw
                  obtain ⟨F', hF', hst'⟩ := hw.sel (M := [rowR 5 1 (some ⟨g6, o6, none⟩) r.length c6 (r.map B8), blk b6 223 _, blk b7 192 (v8c (take64 Kc v (r.take 64))), blk b8 223 (fnc W32 64 Kc), blk b2 161 (List.replicate 32 (.int .u8 0))]) (by repeat (first | exact Sel.nil | (apply Sel.cons; · (repeat (first | exact Pick.here | apply Pick.there))))); refine ⟨F', stars_pure_mk ⟨?_, ?_, ?_, hdl.symm⟩ ?_, hst'⟩
                  ·rw [← hko, takes.eq_1 Kc v r, dif_pos (by omega)]
                  ·show (r.drop 64).length % 64 = 0; omega
                  ·show (r.drop 64).length ≤ _; omega
                  ·have := stars_tail8 (l := 64) (by omega) hF'
                   rw [pfx_full] at this; exact this
        ·try simp only at hc65
         have hk' : r = [] := List.eq_nil_of_length_eq_zero (by omega)
         have hV : (takes Kc v0 (refPad b)).1 = v := by rw [← hko, hk', takes_nil]
         rw [hV]; refine gc_exit ?_; refine gx_then_exit ?_; refine gx_round_exit ?_; refine gx_block_hit ?_; refine gx_then (gsr (gp (r_buildA (cs := List.replicate 32 (.int .u8 0)) Ty.zc_161 Ty.arr_161 Ty.sz_5 (by kernel_rfl)) ?_)); refine zal fun b21 => ?_; refine zsA (new := List.replicate 32 (.int .u8 0)) List.length_replicate (rep_one rfl) ?_; refine gnt (gc_seq (gsr (zxm ?_))); refine gnt (gc_block (gc_loop (α := Nat) (fun k => [pureR (k ≤ 32), blk b21 161 (fnc B8 32 (pfx (outByte v) (fun _ => 0) k)), blk b7 192 (v8c v), blk b2 161 (List.replicate 32 (.int .u8 0))]) (fun k => [(252, .int .i64 (k : Int))]) [22, 253, 254, 255, 256, 257, 258, 259, 260, 261, 262, 263, 264, 265, 266, 267, 268] (fun k => 32 - k) 0 ?_ ?_ ?_))
         ·refine env_start (by kernel_rfl)
         ·exact zlq (Nat.zero_le _) (by rw [pfx_zero, fnc_const] <;> rfl)
         ·intro k u; refine gc_pureR (fun hk => ?_)
          replace hk : k ≤ 32 := hk
          refine gsr (gp zlt ?_); refine gnt (gc_seq (gif rfl (fun hc253 => ?_) (fun hc253 => ?_)))
          ·try simp only at hc253
           have hk' : k < 32 := by omega
           refine gc_skip (gx_then (gc_seq (gc_block (gsr (zxm ?_))))); refine zxa ?_; refine gnt (gc_region (zxm ?_)); refine zxm ?_; refine gp (r_int zqu ((congrArg IntKind.i64.wrap (quo_nat (m := k) (k := 4))).trans (wrap_i64 (by omega) (by omega)))) ?_; refine gp (r_indexAddr_arr rfl rfl Ty.arr_192 Ty.sz_191 (by omega) (by omega)) ?_; refine gp (r_ld1 (v := W32 (v.get (k / 4))) rfl Ty.row_191 (by repeat (first | exact Pick.here | apply Pick.there)) (by rw [show 0 + ((k / 4 : Nat) : Int).toNat * 1 = k / 4 by omega]; exact fnc_get (V := W32) (m := 8) (f := v.get) (by omega))) ?_; refine zxm ?_; refine gp (r_int zrm (rem_nat (m := k) (k := 4))) ?_; refine gp zml ?_; refine gp zsb ?_; refine gp (r_int zci (wrap_u64 (by omega) (by omega))) ?_; refine gp (r_shrw (j := 24 - 8 * (k % 4)) rfl rfl (by omega) (by omega)) ?_; refine gp (r_convw8 rfl Ty.un_191 Ty.un_5) ?_; refine gp (r_indexAddr_arr rfl rfl Ty.arr_161 Ty.sz_5 (by omega) (by omega)) ?_; refine gl_store1 (wt0 rfl) rfl rfl rfl Ty.sz_5 (by repeat (first | exact Pick.here | apply Pick.there)) (by rw [fnc_length]; omega) (pfx_set (k := k) (by omega) (by omega) rfl) ?_; refine gl_nil (gx_block_normal (gx_then (gc_region (gp zad ?_)))); refine zxm ?_; refine gl_nil (zrd (k + 1) ?_ ?_)
           ·show 32 - (k + 1) < 32 - k
            omega
           ·exact zlp (show k + 1 ≤ 32 by omega)
          ·try simp only at hc253
           have hk' : k = 32 := by omega
           subst hk'; refine gc_exit ?_; refine gx_then_exit ?_; refine gx_round_exit ?_; refine gx_block_hit ?_; refine gx_then (gsr (gp (zLa (cs := fnc B8 32 _)) ?_)); refine zsA fnc_length (fnc_one fun _ => rfl) ?_; refine gnt (gc_ret (gx_retc rfl rfl (ld_aggS Ty.row_161 Ty.sz_161 (by repeat (first | exact Pick.here | apply Pick.there)) (seg_all fnc_length) fnc_length) ?_)); rw [pfx_full]; exact ze ()
end
section
def RdStr (cs : List Value) (b : List UInt8) : Prop := cs = [.string (str b)]
inductive All2 {α : Type} (rd : List Value → α → Prop) : List Value → List α → Prop
  | nil : All2 rd [] []
  | cons {v : Value} {x : α} {vs : List Value} {l : List α} : rd [v] x → All2 rd vs l → All2 rd (v :: vs) (x :: l)
theorem All2.len {α : Type} {rd : List Value → α → Prop} {vs : List Value} {l : List α} (h : All2 rd vs l) : vs.length = l.length := by
  induction h with
  | nil => rfl
  | cons _ _ ih => simp [ih]
theorem All2.at {α : Type} {rd : List Value → α → Prop} {vs : List Value} {l : List α} (h : All2 rd vs l) : ∀ (i : Nat) (v : Value) (x : α), vs[i]? = some v → l[i]? = some x → rd [v] x := by
  induction h with
  | nil => intro i v x h1 _; simp at h1
  | cons h1 _ ih =>
    intro i v x hv hx
    cases i with
    | zero => simp at hv hx; subst hv; subst hx; exact h1
    | succ i => exact ih i v x (by simpa using hv) (by simpa using hx)
theorem RdList.of1 {α : Type} {rd : List Value → α → Prop} {w : World} {A : Nat → Prop} {a : Option Addr} {n : Nat} {vs : List Value} {l : List α} (hr : RdRow w A 1 a n vs) (h : All2 rd vs l) : RdList rd w A 1 a n l := by
  refine ⟨vs.map fun v => [v], ?_, by simp, by simp [h.len], fun i c x h1 h2 => ?_⟩
  · have e : (vs.map fun v => [v]).flatten = vs := by
      clear hr h
      induction vs with
      | nil => rfl
      | cons v r ih => simp [ih]
    rw [e]; exact hr
  · rw [List.getElem?_map] at h1
    cases hv : vs[i]? with
    | none => rw [hv] at h1; cases h1
    | some v => rw [hv] at h1; simp at h1; subst h1; exact h.at i v x hv h2
theorem framed_succ (dom : Int) (parts : List (List UInt8)) {k : Nat} {p : List UInt8} (h : parts[k]? = some p) : framed dom (parts.take (k + 1)) = framed dom (parts.take k) ++ (part4 p.length ++ p) := by
  rw [List.take_add_one, h]; simp [framed]
theorem framed_length (dom : Int) (parts : List (List UInt8)) : (framed dom parts).length = 1 + pcost parts := by
  simp only [framed, List.length_cons]
  have : (parts.flatMap fun p => part4 p.length ++ p).length = pcost parts := by
    induction parts with
    | nil => rfl
    | cons p l ih =>
      rw [List.flatMap_cons, List.length_append, ih]
      simp only [List.length_append, pcost, List.map_cons, List.sum_cons, part4, List.length_cons, List.length_nil]; omega
  omega
theorem of_cut (dom : Int) (parts : List (List UInt8)) : fnc B8 16 (outByte (takes Kc v0 (refPad (framed dom parts))).1) = dc (dOf Kc dom parts) := by
  have e : (dOf Kc dom parts).l = (refSum Kc (framed dom parts)).take 16 := hOf_ref Kc dom parts
  rw [dc, e, refSum]
  simp [fnc, ← List.map_take, List.take_range]
theorem RdBytes.row {L L' : List Res} {w : World} {F1 F2 : Nat → Prop} {e n c : Nat} {a : Option Addr} {b : List UInt8} (h2 : stars L w F2) (hd : ∀ k, F1 k → ¬ F2 k) (hp : Pick L (rowR e 1 a n c (b.map B8)) L') : RdBytes w (fun k => ¬ F1 k) [.slice a n c] b :=
  ⟨_, _, _, rfl, rd_le h2 hp, rd_row h2 hd hp⟩
theorem RdBytes.dig {L L' : List Res} {w : World} {F1 F2 : Nat → Prop} {g T : Nat} {d : Dig} (h2 : stars L w F2) (hd : ∀ k, F1 k → ¬ F2 k) (hp : Pick L (blk g T (dc d)) L') : RdBytes w (fun k => ¬ F1 k) [.slice (some ⟨g, 0 + 0 * 1, none⟩) (16 - 0) (16 - 0)] d.l :=
  ⟨_, _, _, rfl, Nat.le_refl _, rd_blk h2 hd hp (by simp only [dc, List.drop_zero]; exact List.take_of_length_le (by simp [d.h])) (by simp [d.h]) (by decide)⟩
attribute [local irreducible] Gl Gc Gx Gs Runs Wt
theorem framed_ok {w : World} {F : Nat → Prop} {dom : Int} {parts : List (List UInt8)} {a : Option Addr} {n c : Nat} (h : stars [] w F) (hx : RdList RdStr w (fun k => ¬ F k) 1 a n parts) (hb : 1 + pcost parts ≤ 1099511627776) :
    Calls Tryz.prog 106 #[.int .i64 dom, .slice a n c] w (Post w F (fun _ : Unit => .string (str (framed dom parts))) (fun _ => [])) := by
 have hnl := hx.len (by decide)
 have hm1 := hx.max
 simp only [maxLen] at hm1
 refine g_enter (env := [(0, .int .i64 dom), (1, .slice a n c)]) Tryz.func106 rfl h Tryz.ntmps106 rfl rfl ?_; refine gsr (zxa ?_); refine zxs ?_; refine zxm ?_; refine gp (r_val zci byte_int) ?_; refine ze1 fun b11 => ?_; refine gp (zso (b := [UInt8.ofNat (dom % 256).toNat])) ?_; refine zxa ?_; refine gnt (gc_seq (gsr (zxm ?_))); refine gp zln ?_; refine zxm ?_; refine gnt (gc_block (gc_loop (α := Nat) (fun k => [pureR (k ≤ n)]) (fun k => [(15, .int .i64 (k : Int)), (5, .string (str (framed dom (parts.take k))))]) [7, 8, 16, 17, 18, 19, 20, 21, 22, 23, 24, 25, 26, 27, 28, 29, 30, 31, 32, 33, 34, 35, 36, 37, 38, 39] (fun k => n - k) 0 ?_ ?_ ?_))
 ·refine env_start (by kernel_rfl)
 ·exact zlp (by first | exact Nat.zero_le _ | omega)
 ·intro k u; refine gc_pureR (fun hk => ?_)
  replace hk : k ≤ n := hk
  refine gsr (gp zlt ?_); refine gnt (gc_seq (gif rfl (fun hc16 => ?_) (fun hc16 => ?_)))
  ·try simp only at hc16
   have hk' : k < n := by omega
   obtain ⟨ga, o, cs, y, ha, hA, hg, hra, hcl, hly, hrd⟩ := hx.elem (by decide) hk'; subst ha; unfold RdStr at hrd
   subst hrd; have hpc := pcost_take hly
   have hfl := framed_length dom (parts.take k)
   refine gc_skip (gx_then (gc_seq (gc_block (gsr (gp zia ?_))))); refine gp (r_ld1o rfl Ty.row_9 (hra 0 _ rfl) hA) ?_; refine zxa ?_; refine zxs ?_; refine zxm ?_; refine gp zlS ?_; refine gp (r_int zci (wrap_u64 (by omega) (by omega))) ?_; refine zxa ?_; refine gnt (gc_region (zxm ?_)); refine zxm ?_; refine gp (r_int zqu ((congrArg IntKind.u64.wrap (quo_nat (m := y.length) (k := 16777216))).trans (wrap_u64 (by omega) (by omega)))) ?_; refine gp (r_val zci byte_nat) ?_; refine zxm ?_; refine gp (r_int zqu ((congrArg IntKind.u64.wrap (quo_nat (m := y.length) (k := 65536))).trans (wrap_u64 (by omega) (by omega)))) ?_; refine gp (r_val zci byte_nat) ?_; refine zxm ?_; refine gp (r_int zqu ((congrArg IntKind.u64.wrap (quo_nat (m := y.length) (k := 256))).trans (wrap_u64 (by omega) (by omega)))) ?_; refine gp (r_val zci byte_nat) ?_; refine zxm ?_; refine gp (r_val zci byte_nat) ?_; refine gl_bsls (vs := (part4 y.length).map B8) (wt0 rfl) Ty.sl_68 Ty.sz_5 Ty.zc_5 rfl rfl (one_B8 _) rfl rfl rfl ?_; intro b34; refine gp (zso (b := part4 y.length)) ?_; refine zxm ?_; refine gp (zcat (a := part4 y.length) (b := y) (hl := by simp only [part4, List.length_cons, List.length_nil]; omega)) ?_; refine gp (r_val (zcat (hl := by simp only [part4, List.length_append, List.length_cons, List.length_nil]; omega)) (congrArg (fun l => Value.string (str l)) (framed_succ dom parts hly).symm)) ?_; refine zxa ?_; refine gl_nil (gx_block_normal (gx_then (gc_region (gp zad ?_)))); refine zxm ?_; refine gl_nil (zrd (k + 1) ?_ ?_)
   ·show n - (k + 1) < n - k
    omega
   ·exact zlp (show k + 1 ≤ n by omega)
  ·try simp only at hc16
   have hk' : k = parts.length := by omega
   subst hk'; refine gc_exit ?_; refine gx_then_exit ?_; refine gx_round_exit ?_; refine gx_block_hit ?_; refine gx_then (gsr (zxm ?_)); refine zxa ?_; refine gnt (gc_ret (gx_ret1 rfl (by conv => lhs; whnf) ?_)); rw [List.take_length]; exact ze ()
theorem of2_ok {w : World} {F : Nat → Prop} {dom : Int} {parts : List (List UInt8)} {a : Option Addr} {n c : Nat} (h : stars [] w F) (hx : RdList RdStr w (fun k => ¬ F k) 1 a n parts) (hb : 1 + pcost parts ≤ 1099511627776) :
    Calls Tryz.prog 85 #[.int .i64 dom, .slice a n c] w (Post w F (fun _ : Unit => .agg (dc (dOf Kc dom parts)).toArray) (fun _ => [])) := by
 refine g_enter (env := [(0, .int .i64 dom), (1, .slice a n c)]) Tryz.func85 rfl h Tryz.ntmps85 rfl rfl ?_; refine gsr (zal fun b4 => ?_); refine zxs ?_; refine zxm ?_; refine zxm ?_; refine zc (fun _ => ?_) (c := fun w1 F1 F2 h1 h2 hd hst => framed_ok h1 (RdList.mv hx hst.still fun _ _ h => h) hb)
 refine zc (fun _ => ?_) (c := fun w1 F1 F2 h1 h2 hd hst => rsum_ok h1 (by rw [framed_length]; omega))
 generalize hV : (takes Kc v0 (refPad (framed dom parts))).1 = V
 refine zal fun b5 => ?_; refine zsA fnc_length (fnc_one fun _ => rfl) ?_; refine zxs ?_; refine gp (r_buildA (cs := zD) Ty.zc_27 Ty.arr_27 Ty.sz_5 (by kernel_rfl)) ?_; refine zal fun b6 => ?_; refine zsA (new := zD) rfl (dc_one dig0) ?_; refine gnt (gc_seq (gsr (zxm ?_))); refine gnt (gc_block (gc_loop (α := Nat) (fun k => [pureR (k ≤ 16), blk b6 27 (fnc B8 16 (pfx (outByte V) (fun _ => 0) k)), blk b5 161 (fnc B8 32 (outByte V)), blk b4 27 zD]) (fun k => [(13, .int .i64 (k : Int))]) [7, 14, 15, 16, 17, 18, 19, 20, 21] (fun k => 16 - k) 0 ?_ ?_ ?_))
 ·refine env_start (by kernel_rfl)
 ·exact zlq (Nat.zero_le _) (M' := [blk b6 27 zD, blk b5 161 (fnc B8 32 (outByte V)), blk b4 27 zD]) (by rw [pfx_zero, fnc_const] <;> rfl)
 ·intro k u; refine gc_pureR (fun hk => ?_)
  replace hk : k ≤ 16 := hk
  refine gsr (gp zlt ?_); refine gnt (gc_seq (gif rfl (fun hc14 => ?_) (fun hc14 => ?_)))
  ·try simp only at hc14
   have hk' : k < 16 := by omega
   refine gc_skip (gx_then (gc_seq (gc_block (gsr (zxm ?_))))); refine zxa ?_; refine gnt (gc_region (zxm ?_)); refine zxm ?_; refine gp zib ?_; refine gp (r_ld1 (v := B8 (outByte V k)) rfl Ty.row_5 (by repeat (first | exact Pick.here | apply Pick.there)) (by rw [show 0 + (k : Int).toNat * 1 = k by omega]; exact fnc_get (V := B8) (f := outByte V) (by omega))) ?_; refine gp zib ?_; refine gl_store1 (wt0 rfl) rfl rfl rfl Ty.sz_5 (by repeat (first | exact Pick.here | apply Pick.there)) (by rw [fnc_length]; omega) (pfx_set (k := k) (by omega) (by omega) rfl) ?_; refine gl_nil (gx_block_normal (gx_then (gc_region (gp zad ?_)))); refine zxm ?_; refine gl_nil (zrd (k + 1) ?_ ?_)
   ·show 16 - (k + 1) < 16 - k
    omega
   ·exact zlp (show k + 1 ≤ 16 by omega)
  ·try simp only at hc14
   have hk' : k = 16 := by omega
   subst hk'; have e : fnc B8 16 (pfx (outByte V) (fun _ => 0) 16) = dc (dOf Kc dom parts) := by rw [pfx_full, ← hV]; exact of_cut dom parts
   rw [e]; refine gc_exit ?_; refine gx_then_exit ?_; refine gx_round_exit ?_; refine gx_block_hit ?_; refine gx_then (gsr (gp (zLa (cs := dc (dOf Kc dom parts))) ?_)); refine zsA (dc_length _) (dc_one _) ?_; refine gnt (gc_ret (gx_retc rfl rfl (ldA Ty.row_27 Ty.sz_27) ?_)); exact ze ()
end
section
attribute [local irreducible] Gl Gc Gx Gs Runs Wt
attribute [local irreducible] dc qcC blkC
theorem rid_ok {w : World} {F : Nat → Prop} {cs : List Value} {x : Block} (h : stars [] w F) (hx : RdBlock w (fun k => ¬ F k) cs x) (ho : OkBlock x) :
    Calls Tryz.prog 54 #[.agg cs.toArray] w (Post w F (fun _ : Unit => .tuple #[.agg (dc (idOf x)).toArray, .int .i64 ((wBlock x ⟨0, []⟩).err : Int)]) (fun _ => [])) := by
 have hl := hx.len
 have il := Len.of hl
 have jl := One.of hx.one
 have hmx := block_max x
 refine g_enter (env := [(0, .agg cs.toArray)]) Tryz.func54 rfl h Tryz.ntmps54 rfl rfl ?_; refine gsr (zbN fun b1 => ?_); refine zal fun b2 => ?_; refine zxa ?_; refine zxs ?_; refine gp (zLa (cs := cs)) ?_; refine zc ?_ (c := fun w1 F1 F2 h1 h2 hd hst => obytes_ok h1 (hx.mv hst.still) ho)
 rintro ⟨a8, c8⟩
 refine zxm ?_; refine gp zex ?_; refine gp zex ?_; refine zxa ?_; refine zxa ?_; refine gnt (gc_seq (gc_seq ?_)); by_cases he : (wBlock x ⟨0, []⟩).err = 0
 ·refine gc_region (zxm ?_); refine gp (r_bool (c := false) zni (by simp [he])) ?_; refine gnt (gc_condF rfl rfl ?_); refine gc_skip (gx_then (gsr (zxm ?_))); refine gp (zso (b := wOut (wBlock x ⟨0, []⟩))) ?_; refine ze1 fun b17 => ?_; refine zc (fun _ => ?_) (c := fun w1 F1 F2 h1 h2 hd hst => of2_ok (parts := [wOut (wBlock x ⟨0, []⟩)]) h1 (.of1 (rd_row (xs := [.string (str (wOut (wBlock x ⟨0, []⟩)))]) h2 hd (by repeat (first | exact Pick.here | apply Pick.there))) (.cons rfl .nil)) (by simp only [pcost, List.map_cons, List.map_nil, List.sum_cons, List.sum_nil]; omega))
  refine zsA (dc_length _) (dc_one _) ?_; refine zxa ?_; refine gnt (gc_ret (gx_retct rfl rfl (by conv => lhs; whnf) (ldA Ty.row_27 Ty.sz_27) ?_)); have e : idOf x = dOf Kc 6 [wOut (wBlock x ⟨0, []⟩)] := by rw [idOf, if_pos he, wOut, if_pos he]
  rw [e]; exact fun w' hw => ⟨(), by rw [he]; rfl, hw.z⟩
 ·refine gc_region (zxm ?_); refine gp (r_bool (c := true) zni (by simp [he])) ?_; refine gnt (gc_condT rfl rfl ?_); refine gsr (gp (r_buildA (cs := dc dig0) Ty.zc_27 Ty.arr_27 Ty.sz_5 (by kernel_rfl)) ?_); refine zxm ?_; refine zsA (dc_length _) (dc_one _) ?_; refine zxa ?_; refine gnt (gc_ret (gx_then_ret (gx_retct rfl rfl (by conv => lhs; whnf) (ldA Ty.row_27 Ty.sz_27) ?_))); have e : idOf x = dig0 := by rw [idOf, if_neg he]
  rw [e]; exact ze ()
attribute [local irreducible] idOf
end
section
theorem wFix_err {b : List UInt8} {s : WS} (h : s.err = 0) : (wFix b s).err = 0 := by unfold wFix; rw [if_pos h]; exact h
theorem wNum_err {n : Int} {wd : Nat} {s : WS} (h : s.err = 0) (h0 : 0 ≤ n) (h1 : n < 2 ^ (8 * wd)) : (wNum n wd s).err = 0 := by
  unfold wNum; rw [if_neg (by omega)]; exact wFix_err h
theorem wPut_nil {α : Type} {wX : α → WS → WS} {most : Nat} {s : WS} (h : s.err = 0) : (wPut wX [] most s).err = 0 := by
  unfold wPut; rw [if_neg (by simp)]; exact wNum_err h (by simp) (by simp)
theorem wPut_one {α : Type} {wX : α → WS → WS} {x : α} {most : Nat} {s : WS} (h : s.err = 0) (hm : 1 ≤ most) (hx : ∀ s : WS, s.err = 0 → (wX x s).err = 0) : (wPut wX [x] most s).err = 0 := by
  unfold wPut; rw [if_neg (by simp; omega)]; exact hx _ (wNum_err h (by simp) (by simp))
theorem blk_err {e r e2 r2 : Int} {p d : Dig} {tx : UInt8} (he : 0 ≤ e ∧ e < 4294967296) (hr : 0 ≤ r ∧ r < 281474976710656) (he2 : 0 ≤ e2 ∧ e2 < 4294967296) (hr2 : 0 ≤ r2 ∧ r2 < 281474976710656) :
    (wBlock ⟨e, r, p, ⟨e2, r2, d, []⟩, [[tx]], []⟩ ⟨0, []⟩).err = 0 := by
  have p4 : (2 : Int) ^ (8 * 4) = 4294967296 := by decide
  have p6 : (2 : Int) ^ (8 * 6) = 281474976710656 := by decide
  unfold wBlock wQC wAt wDig
  refine wPut_nil (wPut_one (wPut_nil (wFix_err (wNum_err (wNum_err (wFix_err (wNum_err (wNum_err rfl he.1 (by rw [p4]; exact he.2)) hr.1 (by rw [p6]; exact hr.2))) he2.1 (by rw [p4]; exact he2.2)) hr2.1 (by rw [p6]; exact hr2.2)))) (by decide) fun s hs => ?_)
  unfold wBytes
  rw [if_neg (by simp)]
  exact wFix_err (wNum_err hs (by simp) (by simp))
theorem askE_mk {t : Tr} {b p : Block} {id : Dig} (hn : lkN id t.nodes = none) (hp : lkN b.parent t.nodes = some p) (hf : fitsQ b.justify b.parent p = true) (he : b.epoch = p.epoch) (hr : p.round < b.round) (hl : t.nodes.length < 16) : askE t b 0 id = 0 := by
  unfold askE
  simp only [hn, hp, hf, he, Option.isSome_none, Bool.false_eq_true, if_false, if_true, and_self]
  rw [if_neg (by omega), if_neg (by omega)]
theorem askE_there {t : Tr} {b x : Block} {id : Dig} (h : lkN id t.nodes = some x) : askE t b 0 id = 17 := by
  unfold askE
  simp [h]
attribute [local irreducible] idOf gid
section
variable (st : Nat → Int)
def txN (k : Nat) : UInt8 := UInt8.ofNat ((k : Int) % 256).toNat
variable {st}
structure StOk (st : Nat → Int) : Prop where
  lo : ∀ i, 1 ≤ st i
  hi : ∀ i, st i ≤ 1000
end
end
section
structure Calm (d : DS) : Prop where
  ar : d.armed = false
  on : d.off = false
  ok : DOk d
theorem at_write {d : DS} {i j : Nat} {v : Sec} : (d.write (i : Int) v).at j = if j = i then v else d.at j := by
  simp only [DS.at, DS.write, lookW_put]
  by_cases h : j = i
  · subst h; simp
  · rw [if_neg h, if_neg (by omega)]
theorem at_sync {d : DS} {j : Nat} : d.sync.at j = d.at j := rfl
theorem Calm.wr {d : DS} (h : Calm d) {i : Nat} {v : Sec} (hi : i < d.n) : d.wr (i : Int) v = (0, d.write (i : Int) v) ∧ Calm (d.write (i : Int) v) :=
  ⟨wr_calm h.ar h.on (has_iff.2 ⟨by omega, by omega⟩), h.ar, h.on, write_ok h.ok (by omega) (by omega)⟩
theorem Calm.sync {d : DS} (h : Calm d) : d.syncd = d.sync ∧ Calm d.sync ∧ (oper d).off = false := ⟨syncd_calm h.ar h.on, ⟨h.ar, h.on, sync_ok h.ok⟩, by rw [oper_calm h.ar]; exact h.on⟩
theorem wdat_calm {d : DS} (h : Calm d) (e : Nat) (x : List UInt8) : ∀ i, e + 1 + i ≤ d.n → (wdat d e x i).1 = 0 ∧ Calm (wdat d e x i).2 ∧ (wdat d e x i).2.n = d.n ∧ ∀ j, (wdat d e x i).2.at j = if e + 1 ≤ j ∧ j < e + 1 + i then secData x (j - (e + 1)) else d.at j
  | 0, _ => ⟨rfl, h, rfl, fun j => by rw [if_neg (by omega), wdat_zero]⟩
  | i + 1, hi => by
    obtain ⟨h0, hc, hn, ha⟩ := wdat_calm h e x i (by omega)
    obtain ⟨hw, hc2⟩ := hc.wr (i := e + 1 + i) (v := secData x i) (by omega)
    rw [wdat_step h0, hw]
    refine ⟨rfl, hc2, hn, fun j => ?_⟩
    show ((wdat d e x i).2.write ((e + 1 + i : Nat) : Int) (secData x i)).at j = _
    rw [at_write, ha]
    by_cases h1 : j = e + 1 + i
    · subst h1; rw [if_pos rfl, if_pos (by omega), Nat.add_sub_cancel_left]
    · rw [if_neg h1]
      by_cases h2 : e + 1 ≤ j ∧ j < e + 1 + i
      · rw [if_pos h2, if_pos (by omega)]
      · rw [if_neg h2, if_neg (by omega)]
def appF (d : DS) (l : LS) (r : LRec) (j : Nat) : Sec :=
  if j = l.e then headL l.rs.length r.data else if j = l.e + lenR r then sec0 else if l.e + 1 ≤ j ∧ j < l.e + lenR r then secData r.data (j - (l.e + 1)) else d.at j
def LS.add (l : LS) (r : LRec) : LS := ⟨l.base, l.rs ++ [r], l.e + lenR r⟩
theorem appD_calm {d : DS} {l : LS} {r : LRec} (h : Calm d) (hf : nsec r.data.length + 2 ≤ d.n - l.e) : ∃ d', appD d l r = (0, d', l.add r) ∧ Calm d' ∧ d'.n = d.n ∧ d'.ws = [] ∧ ∀ j, d'.at j = appF d l r j := by
  have hl : lenR r = 1 + nsec r.data.length := rfl
  obtain ⟨h0, hc, hn, ha⟩ := wdat_calm h l.e r.data (nsec r.data.length) (by omega)
  obtain ⟨d1, hd1⟩ : ∃ d1, d1 = (wdat d l.e r.data (nsec r.data.length)).2 := ⟨_, rfl⟩
  rw [← hd1] at hc hn ha
  obtain ⟨hw2, hc2⟩ := hc.wr (i := l.e + lenR r) (v := sec0) (by omega)
  obtain ⟨hs3, hc3, ho3⟩ := hc2.sync
  obtain ⟨hw4, hc4⟩ := hc3.wr (i := l.e) (v := headL l.rs.length r.data) (by show l.e < d1.n; omega)
  obtain ⟨hs5, hc5, ho5⟩ := hc4.sync
  refine ⟨_, ?_, hc5, hn, rfl, fun j => ?_⟩
  · unfold appD
    rw [if_pos h0, ← hd1]
    unfold appE
    rw [hw2, if_pos rfl]
    unfold appM
    rw [if_neg (by rw [ho3]; decide), hs3]
    unfold appH
    rw [hw4, if_pos rfl]
    unfold appS
    rw [if_neg (by rw [ho5]; decide), hs5]
    rfl
  · rw [at_sync, at_write, at_sync, at_write, ha]
    unfold appF
    by_cases h1 : j = l.e
    · rw [if_pos h1, if_pos h1]
    · rw [if_neg h1, if_neg h1]
      by_cases h2 : j = l.e + lenR r
      · rw [if_pos h2, if_pos h2]
      · rw [if_neg h2, if_neg h2, hl, show l.e + (1 + nsec r.data.length) = l.e + 1 + nsec r.data.length by omega]
structure LInv (d : DS) (l : LS) (bs : Nat) : Prop where
  ba : l.base = (bs : Int)
  lo : LOk d.at bs l.rs
  e : l.e = bs + tot l.rs
  lt : l.e < d.n
theorem tot_snoc (rs : List LRec) (r : LRec) : tot (rs ++ [r]) = tot rs + lenR r := by simp [tot]
theorem secsR_at {h i : Nat} {r : LRec} (hi : i < nsec r.data.length) : (secsR h r).getD (i + 1) sec0 = secData r.data i := by
  simp [secsR, List.getD, hi]
theorem LInv.add {d d' : DS} {l : LS} {bs : Nat} {r : LRec} (h : LInv d l bs) (hr : r.Ok) (hf : nsec r.data.length + 2 ≤ d.n - l.e) (hn : d'.n = d.n) (ha : ∀ j, d'.at j = appF d l r j) : LInv d' (l.add r) bs := by
  have hl : lenR r = 1 + nsec r.data.length := rfl
  have he := h.e
  refine ⟨h.ba, ⟨fun x hx => ?_, fun i hi => ?_, ?_⟩, by show l.e + lenR r = bs + tot (l.rs ++ [r]); rw [tot_snoc]; omega, by show l.e + lenR r < d'.n; omega⟩
  · rcases List.mem_append.1 hx with hx | hx
    · exact h.lo.ok x hx
    · simp at hx; subst hx; exact hr
  · replace hi : i < tot (l.rs ++ [r]) := hi
    rw [tot_snoc] at hi
    show d'.at (bs + i) = (secsOf 0 (l.rs ++ [r])).getD i sec0
    rw [ha, secsOf_app, Nat.zero_add]
    by_cases h1 : i < tot l.rs
    · rw [appF, if_neg (by omega), if_neg (by omega), if_neg (by omega), h.lo.at' i h1]
      simp only [List.getD]
      rw [List.getElem?_append_left (by rw [secsOf_len]; exact h1)]
    · obtain ⟨k, rfl⟩ : ∃ k, i = tot l.rs + k := ⟨i - tot l.rs, by omega⟩
      have e1 : (secsOf 0 l.rs ++ secsOf l.rs.length [r]).getD (tot l.rs + k) sec0 = (secsR l.rs.length r).getD k sec0 := by
        simp only [List.getD]
        rw [List.getElem?_append_right (by rw [secsOf_len]; omega), secsOf_len, Nat.add_sub_cancel_left]
        simp [secsOf]
      rw [e1, appF]
      cases k with
      | zero => rw [if_pos (by omega)]; rfl
      | succ k => rw [if_neg (by omega), if_neg (by omega), if_pos (by omega), secsR_at (by omega)]; congr 1; omega
  · show d'.at (bs + tot (l.rs ++ [r])) = sec0
    rw [ha, tot_snoc, appF, if_neg (by omega), if_pos (by omega)]
theorem tot_ge : ∀ (rs : List LRec), 2 * rs.length ≤ tot rs
  | [] => Nat.le_refl _
  | r :: l => by
    have := tot_ge l
    have hd := data_len r
    have : 1 ≤ nsec r.data.length := by unfold nsec; omega
    show 2 * (l.length + 1) ≤ lenR r + tot l
    unfold lenR; omega
theorem LInv.ln {d : DS} {l : LS} {bs : Nat} (h : LInv d l bs) (hk : DOk d) : l.rs.length ≤ 2048 := by
  have := tot_ge l.rs; have := h.lt; have := h.e; have := hk.n; omega
theorem LInv.op {d : DS} {l : LS} {bs : Nat} (h : LInv d l bs) : openE d (bs : Int) = (0, l) := by
  have hlt := h.lt
  have he := h.e
  have hh := lopen_ok h.lo (by omega)
  rw [openE, if_pos (has_iff.2 ⟨by omega, by omega⟩), Int.toNat_natCast, hh]
  simp only [Prod.mk.injEq, true_and]
  rw [← he, ← h.ba]
theorem fmt_calm {d : DS} {bs : Nat} (h : Calm d) (hb : bs < d.n) : ∃ d', fmtL d (bs : Int) = (0, d') ∧ Calm d' ∧ d'.n = d.n ∧ d'.ws = [] ∧ LInv d' ⟨bs, [], bs⟩ bs := by
  obtain ⟨hw, hc⟩ := h.wr (i := bs) (v := sec0) hb
  obtain ⟨hs, hc2, ho⟩ := hc.sync
  refine ⟨(d.write (bs : Int) sec0).sync, ?_, hc2, rfl, rfl, rfl, ⟨by simp, fun i hi => absurd hi (Nat.not_lt_zero _), ?_⟩, rfl, hb⟩
  · rw [fmtL, if_pos (has_iff.2 ⟨by omega, by omega⟩), hw, if_pos rfl, if_neg (by rw [ho]; decide), hs]
  · show ((d.write (bs : Int) sec0).sync).at (bs + 0) = sec0
    rw [at_sync, at_write, if_pos (by omega)]
def Wr (f : WS → WS) (n : Nat) : Prop := ∀ s, s.err = 0 → (f s).err = 0 ∧ (f s).bs.length = s.bs.length + n
theorem Wr.fix (b : List UInt8) : Wr (wFix b) b.length := fun s h => by rw [wFix_of h]; simp
theorem Wr.num {v : Int} {wd : Nat} (h0 : 0 ≤ v) (h : v < 2 ^ (8 * wd)) : Wr (wNum v wd) wd := fun s hs => by
  unfold wNum
  rw [if_neg (by omega)]
  have := Wr.fix (beN v wd) s hs
  rwa [beN_length] at this
theorem Wr.then {f g : WS → WS} {n m : Nat} (hf : Wr f n) (hg : Wr g m) : Wr (fun s => g (f s)) (n + m) := fun s hs => by
  obtain ⟨h1, h2⟩ := hf s hs
  obtain ⟨h3, h4⟩ := hg (f s) h1
  exact ⟨h3, by rw [h4, h2, Nat.add_assoc]⟩
theorem Wr.dig (d : Dig) : Wr (wDig d) 16 := fun s hs => by have := Wr.fix d.l s hs; rwa [d.h] at this
theorem Wr.fold {α : Type} {wX : α → WS → WS} {c : Nat} : ∀ {l : List α}, (∀ x ∈ l, Wr (wX x) c) → Wr (fun s => l.foldl (fun s x => wX x s) s) (l.length * c)
  | [], _ => fun s hs => ⟨hs, by simp⟩
  | x :: l, h => by
    have h1 := (h x (by simp)).then (Wr.fold (l := l) fun y hy => h y (by simp [hy]))
    rw [show (x :: l).length * c = c + l.length * c by rw [List.length_cons, Nat.add_mul, Nat.one_mul, Nat.add_comm]]
    exact h1
theorem Wr.put {α : Type} {wX : α → WS → WS} {c most : Nat} {l : List α} (hl : l.length ≤ most) (h2 : l.length ≤ 255) (h : ∀ x ∈ l, Wr (wX x) c) : Wr (wPut wX l most) (1 + l.length * c) := fun s hs => by
  unfold wPut
  rw [if_neg (by omega)]
  exact (Wr.num (v := (l.length : Int)) (wd := 1) (by omega) (by show (l.length : Int) < 256; omega)).then (Wr.fold h) s hs
theorem Wr.bytes {b : List UInt8} {most : Nat} (h : b.length ≤ most) (hm : most ≤ 65535) : Wr (wBytes b most) (2 + b.length) := fun s hs => by
  unfold wBytes
  rw [if_neg (by omega)]
  exact (Wr.num (v := (b.length : Int)) (wd := 2) (by omega) (by show (b.length : Int) < 65536; omega)).then (Wr.fix b) s hs
theorem u64_rem (a : Int) {m : Nat} (hm : 0 < m) : (IntKind.u64.wrap a).tmod (m : Int) = ((((IntKind.u64.wrap a).tmod (m : Int)).toNat : Nat) : Int) ∧ ((IntKind.u64.wrap a).tmod (m : Int)).toNat < m := by
  have h0 : 0 ≤ IntKind.u64.wrap a := by simp [IntKind.wrap, IntKind.bits, IntKind.signed]; omega
  have h1 := Int.tmod_lt_of_pos (IntKind.u64.wrap a) (show (0 : Int) < (m : Int) by omega)
  have h2 := Int.tmod_nonneg (m : Int) h0
  omega
theorem wr_at {n : Nat} (h : n < 1000) : Wr (wAt 1 n) 10 :=
  (Wr.num (v := 1) (wd := 4) (by decide) (by decide)).then (Wr.num (v := (n : Int)) (wd := 6) (by omega) (by show (n : Int) < 281474976710656; omega))
theorem wr_at0 : Wr (wAt 0 0) 10 := (Wr.num (v := 0) (wd := 4) (by decide) (by decide)).then (Wr.num (v := 0) (wd := 6) (by decide) (by decide))
attribute [local irreducible] wAt wDig wPut wSigned wBytes wVdr in
theorem app_ok {d : DS} {l : LS} {b : Block} {c : QC} (hm : madeE b c = 0) (h2 : l.rs.length < 200) (hf : nsec (⟨b, c⟩ : LRec).data.length + 2 ≤ d.n - l.e) : appL d l b c = appD d l ⟨b, c⟩ := by
  unfold appL; rw [if_pos hm, if_neg (fun h => h.elim (fun h' => by omega) (fun h' => h' hf))]
end
section
abbrev lsOf (bs : Nat) (rs : List LRec) : LS := ⟨(bs : Int), rs, bs + tot rs⟩
structure LdOk (d : DS) (n bs : Nat) (rs : List LRec) : Prop where
  c : Calm d
  n : d.n = n
  ws : d.ws = []
  i : LInv d (lsOf bs rs) bs
def LdR (q g n bs : Nat) (rs : List LRec) : Res := exR fun d : DS => allR [pureR (LdOk d n bs rs), LedR q g (lsOf bs rs), DiskR g d]
section
variable {w w0 : World} {F F0 : Nat → Prop} {q g n bs : Nat} {rs : List LRec} {L : List Res} {ea : Nat → Addr} {es : List Nat}
theorem ld_open (h : stars (LdR q g n bs rs :: L) w F) : ∃ d, LdOk d n bs rs ∧ stars (LedR q g (lsOf bs rs) :: DiskR g d :: L) w F := by
  obtain ⟨d, h⟩ := stars_ex h
  obtain ⟨h1, h2⟩ := stars_pure (stars_all h)
  exact ⟨d, h1, h2⟩
theorem ld_shut {d : DS} (hd : LdOk d n bs rs) (h : stars (LedR q g (lsOf bs rs) :: DiskR g d :: L) w F) : stars (LdR q g n bs rs :: L) w F := stars_ex_mk d (stars_all_mk (stars_pure_mk hd h))
theorem St.ld {d : DS} (h : St w0 F0 (LedR q g (lsOf bs rs) :: DiskR g d :: L) w) (hd : LdOk d n bs rs) : St w0 F0 (LdR q g n bs rs :: L) w := h.mapL fun F hF => ld_shut hd hF
theorem disk0_calm {n : Nat} (h : n ≤ 4096) : Calm ⟨n, fun _ => sec0, [], false, false, 0⟩ := ⟨rfl, rfl, h, by simp [keysW], by simp [keysW], (fun h => by cases h), by show (-9223372036854775808 : Int) ≤ 0 ∧ (0 : Int) ≤ 9223372036854775807; decide⟩
theorem fmtC (h : stars [DiskR g ⟨n, fun _ => sec0, [], false, false, 0⟩] w F) (hn : n ≤ 4096) (hb : bs < n) [Has es 1] [Has es 6] (hE : GErr es w (fun k => ¬ F k) 251 ea) :
    Calls Tryz.prog 24 #[.pointer (some ⟨g, 0, none⟩), .int .i64 (bs : Int)] w (Post w F (fun q : Nat => .tuple #[.pointer (some ⟨q, 0, none⟩), eV 251 ea 0]) (fun q => [LdR q g n bs []])) := by
  have hc := disk0_calm hn
  obtain ⟨d', e, h1, h2, h3, h4⟩ := fmt_calm hc hb
  refine Calls.mono (formatL_ok (b := (bs : Int)) h hc.ok hE) ?_
  rintro o w' ⟨q, ho, hs⟩
  simp only [e, if_true] at ho hs
  exact ⟨q, ho, St.ld (rs := []) (n := n) (L := []) (show St w F [LedR q g (lsOf bs []), DiskR g d'] w' from hs) ⟨h1, h2, h3, h4⟩⟩
theorem appC {cs qs : List Value} {b : Block} {c : QC} (h : stars [LdR q g n bs rs] w F) [Has es 1] [Has es 4] [Has es 6] [Has es 8] [Has es 12] (hE : GErr es w (fun k => ¬ F k) 251 ea) (hK : KR w (fun k => ¬ F k)) (hx : RdBlock w (fun k => ¬ F k) cs b) (hq : RdQC w (fun k => ¬ F k) qs c)
    (hr : (⟨b, c⟩ : LRec).Ok) (h2 : rs.length < 200) (hf : bs + tot rs + nsec (⟨b, c⟩ : LRec).data.length + 2 ≤ n) :
    Calls Tryz.prog 26 #[.pointer (some ⟨q, 0, none⟩), .agg cs.toArray, .agg qs.toArray] w (Post w F (fun _ : Unit => eV 251 ea 0) (fun _ => [LdR q g n bs (rs ++ [⟨b, c⟩])])) := by
  obtain ⟨d, hd, h⟩ := ld_open h
  have hfit : nsec (⟨b, c⟩ : LRec).data.length + 2 ≤ d.n - (lsOf bs rs).e := by rw [hd.n]; show _ ≤ n - (bs + tot rs); omega
  obtain ⟨d', e, h1, h3, h4, h5⟩ := appD_calm (l := lsOf bs rs) hd.c hfit
  have e2 := (app_ok (d := d) (l := lsOf bs rs) (made_zero hr) h2 hfit).trans e
  refine Calls.mono (append_ok (l := lsOf bs rs) h hd.c.ok hE hK hx hq hd.i.lt (by show rs.length < _; omega)) ?_
  rintro o w' ⟨x, ho, hs⟩
  simp only [e2] at ho hs
  have hi := hd.i.add (d' := d') hr hfit h3 h5
  have el : (lsOf bs rs).add ⟨b, c⟩ = lsOf bs (rs ++ [⟨b, c⟩]) := by simp only [LS.add, lsOf, tot_snoc, Nat.add_assoc]
  rw [el] at hi hs
  exact ⟨(), ho, St.ld hs ⟨h1, by rw [h3, hd.n], h4, hi⟩⟩
end
end
section
theorem wr_q {r : Nat} (h : r < 1000) (d : Dig) : Wr (wQC ⟨1, r, d, []⟩) 27 := ((wr_at h).then (Wr.dig d)).then (Wr.put (l := ([] : List Signed)) (c := 0) (by simp) (by simp) (by simp))
theorem wr_v1 : Wr (wVdr ⟨dig0, 1⟩) 22 := (Wr.dig dig0).then (Wr.num (v := 1) (wd := 6) (by decide) (by decide))
attribute [local irreducible] wAt wDig wPut wSigned wBytes wVdr wQC in
theorem wr_nx {r r2 : Nat} {p d : Dig} {tx : UInt8} {nx : List Vdr} (h : r < 1000) (h2 : r2 < 1000) (hn : nx = [] ∨ nx = [⟨dig0, 1⟩]) : Wr (wBlock ⟨1, r, p, ⟨1, r2, d, []⟩, [[tx]], nx⟩) (58 + nx.length * 22) := fun s hs => by
  have k1 := wr_at h s hs
  have k2 := Wr.dig p _ k1.1
  have k3 := wr_q h2 d _ k2.1
  have k4 := Wr.put (wX := fun t => wBytes t 16) (l := [[tx]]) (most := 4) (c := 3) (by simp) (by simp) (fun x hx => by simp at hx; subst hx; exact Wr.bytes (b := [tx]) (most := 16) (by simp) (by decide)) _ k3.1
  have k5 := Wr.put (wX := wVdr) (l := nx) (most := 7) (c := 22) (by rcases hn with rfl | rfl <;> simp) (by rcases hn with rfl | rfl <;> simp) (fun x hx => by
    rcases hn with rfl | rfl
    · simp at hx
    · simp at hx; subst hx; exact wr_v1) _ k4.1
  refine ⟨k5.1, k5.2.trans ?_⟩
  rw [k4.2, k3.2, k2.2, k1.2]; simp; omega
attribute [local irreducible] wAt wDig wPut wSigned wBytes wVdr in
theorem wr_ce {r : Nat} {d : Dig} (h : r < 1000) : Wr (wBlock (certB ⟨1, r, d, []⟩)) 55 := fun s hs => by
  have h1 := wr_at0 s hs
  have h2 := Wr.dig dig0 _ h1.1
  have h3 := wr_at h _ h2.1
  have h4 := Wr.dig d _ h3.1
  have h5 := Wr.put (wX := wSigned) (l := ([] : List Signed)) (most := 7) (c := 0) (by simp) (by simp) (by simp) _ h4.1
  have h6 := Wr.put (wX := fun t => wBytes t 16) (l := ([] : List (List UInt8))) (most := 4) (c := 0) (by simp) (by simp) (by simp) _ h5.1
  have h7 := Wr.put (wX := wVdr) (l := ([] : List Vdr)) (most := 7) (c := 0) (by simp) (by simp) (by simp) _ h6.1
  refine ⟨h7.1, h7.2.trans ?_⟩
  rw [h6.2, h5.2, h4.2, h3.2, h2.2, h1.2]; simp
attribute [local irreducible] idOf gid
section
variable (es : List Bool)
def leX (b : Block) (e : Bool) (k : Nat) : Block := { chB b (idOf b) 1 (txN k) with next := if e then [⟨dig0, 1⟩] else [] }
def leB : Nat → Block
  | 0 => g0
  | k + 1 => leX (leB k) (es.getD k false) k
def leI (k : Nat) : Dig := idOf (leB es k)
def leQ (k : Nat) : QC := ⟨1, (leB es k).round, leI es k, []⟩
def leR (k : Nat) : LRec := ⟨leB es (k + 1), leQ es (k + 1)⟩
def leRs (k : Nat) : List LRec := (List.range k).map (leR es)
def leL (k : Nat) : List Block := (List.range k).map fun i => leB es (i + 1)
def leD (k : Nat) : List Dig := (List.range (k + 1)).map (leI es)
variable {es}
theorem leB_zero : leB es 0 = g0 := rfl
theorem leB_succ (k : Nat) : leB es (k + 1) = leX (leB es k) (es.getD k false) k := rfl
theorem leI_zero : leI es 0 = gid := g0_id
theorem leI_def (k : Nat) : idOf (leB es k) = leI es k := rfl
theorem leB_round : ∀ k, (leB es k).round = (k : Int)
  | 0 => rfl
  | k + 1 => by show (leB es k).round + 1 = ((k + 1 : Nat) : Int); rw [leB_round k]; rfl
theorem leB_epoch : ∀ k, (leB es k).epoch = 1
  | 0 => rfl
  | k + 1 => leB_epoch k
theorem leB_parent (k : Nat) : (leB es (k + 1)).parent = leI es k := rfl
theorem leX_eq (k : Nat) : leB es (k + 1) = ⟨1, ((k + 1 : Nat) : Int), leI es k, ⟨1, (k : Int), leI es k, []⟩, [[txN k]], if es.getD k false then [⟨dig0, 1⟩] else []⟩ := by
  have h1 := leB_round (es := es) k
  have h2 := leB_epoch (es := es) k
  show Block.mk (leB es k).epoch ((leB es k).round + 1) (leI es k) ⟨(leB es k).epoch, (leB es k).round, leI es k, []⟩ [[txN k]] _ = _
  rw [h1, h2]; rfl
theorem leQ_eq (k : Nat) : leQ es k = ⟨1, (k : Int), leI es k, []⟩ := by unfold leQ; rw [leB_round]
theorem le_wr {k : Nat} (h : k < 900) : Wr (wBlock (leB es (k + 1))) (58 + (if es.getD k false then 1 else 0) * 22) := by
  rw [leX_eq]
  cases es.getD k false
  · exact wr_nx (r := k + 1) (r2 := k) (nx := []) (by omega) (by omega) (.inl rfl)
  · exact wr_nx (r := k + 1) (r2 := k) (nx := [⟨dig0, 1⟩]) (by omega) (by omega) (.inr rfl)
theorem leB_err {k : Nat} (h : k < 900) : (wBlock (leB es k) ⟨0, []⟩).err = 0 := by
  cases k with
  | zero => exact g0_err
  | succ k => exact (le_wr (by omega) ⟨0, []⟩ rfl).1
theorem leB_sm : ∀ k, smBlk (leB es k)
  | 0 => smB_g0
  | k + 1 => by
    rw [leX_eq]
    exact ⟨⟨by simp, fun _ h => by cases h⟩, by show List.length (if _ then _ else _) ≤ _; split <;> simp, by simp, fun x h => by simp at h; subst h; simp⟩
theorem leQ_sm (k : Nat) : smQC (leQ es k) := ⟨by simp [leQ], fun _ h => by cases h⟩
theorem leR_ok {k : Nat} (h : k < 800) : (leR es k).Ok := ⟨leB_err (by omega), by
    show (wBlock (certB (leQ es (k + 1))) ⟨0, []⟩).err = 0
    rw [leQ_eq]; exact (wr_ce (r := k + 1) (by omega) ⟨0, []⟩ rfl).1, rfl, (leB_epoch (k + 1)).symm, rfl⟩
theorem leR_len {k : Nat} (h : k < 800) : nsec (leR es k).data.length ≤ 3 := by
  have h1 := (le_wr (es := es) (k := k) (by omega) ⟨0, []⟩ rfl).2
  have h2 := (wr_ce (r := k + 1) (d := leI es (k + 1)) (by omega) ⟨0, []⟩ rfl).2
  rw [LRec.data, dataL_len]
  have e1 : (leR es k).bs.length ≤ 80 := by
    show (wBlock (leB es (k + 1)) ⟨0, []⟩).bs.length ≤ _
    rw [h1]; simp; split <;> omega
  have e2 : (leR es k).cs.length = 55 := by
    show (wBlock (certB (leQ es (k + 1))) ⟨0, []⟩).bs.length = _
    rw [leQ_eq, h2]; simp
  unfold nsec; omega
theorem leRs_succ (k : Nat) : leRs es (k + 1) = leRs es k ++ [leR es k] := by simp [leRs, List.range_succ]
theorem leRs_len (k : Nat) : (leRs es k).length = k := by simp [leRs]
theorem leRs_tot : ∀ {k : Nat}, k ≤ 800 → tot (leRs es k) ≤ 4 * k
  | 0, _ => by simp [leRs, tot]
  | k + 1, h => by
    have ih := leRs_tot (k := k) (by omega)
    have h2 := leR_len (es := es) (k := k) (by omega)
    rw [leRs_succ, tot_snoc]
    unfold lenR; omega
theorem leRs_ok {k : Nat} (hk : k ≤ 800) : ∀ r ∈ leRs es k, r.Ok := fun r hr => by
  simp only [leRs, List.mem_map, List.mem_range] at hr
  obtain ⟨i, hi, rfl⟩ := hr
  exact leR_ok (by omega)
theorem leL_succ (k : Nat) : leL es (k + 1) = leL es k ++ [leB es (k + 1)] := by simp [leL, List.range_succ]
theorem leL_len (k : Nat) : (leL es k).length = k := by simp [leL]
theorem leL_at {k i : Nat} (h : i < k) : (leL es k)[i]? = some (leB es (i + 1)) := by simp [leL, h]
theorem leRs_b (k : Nat) : (leRs es k).map (fun r => r.b) = leL es k := by simp [leRs, leL, Function.comp_def, leR]
theorem leD_succ (k : Nat) : leD es (k + 1) = leD es k ++ [leI es (k + 1)] := by simp [leD, List.range_succ]
theorem leD_len (k : Nat) : (leD es k).length = k + 1 := by simp [leD]
theorem leD_at {k i : Nat} (h : i ≤ k) : (leD es k)[i]? = some (leI es i) := by simp [leD, show i < k + 1 by omega]
theorem leQ_fits (k : Nat) : fitsQ (leQ es k) (leI es k) (leB es k) = true := by simp [fitsQ, leQ, leB_epoch]
end
def uMod (p : Int) (m : Nat) : Nat := ((IntKind.u64.wrap p).tmod (m : Int)).toNat
theorem uMod_eq (p : Int) {m : Nat} (h : 0 < m) : (IntKind.u64.wrap p).tmod (m : Int) = (uMod p m : Int) ∧ uMod p m < m := u64_rem p h
def trX (l : List Block) (p s : Int) (i : Nat) : Block := chB (l.getD (uMod p l.length) g0) (idOf (l.getD (uMod p l.length) g0)) (1 + (uMod s 3 : Nat)) (txN (100 + i))
section
variable (b0 : Block) (ps ss : List Int)
def trB : Nat → List Block
  | 0 => [b0]
  | i + 1 => trB i ++ [trX (trB i) (ps.getD i 0) (ss.getD i 0) i]
def trN (i : Nat) : Block := trX (trB b0 ps ss i) (ps.getD i 0) (ss.getD i 0) i
def trT : Nat → Tr
  | 0 => newT b0 ⟨1, b0.round, idOf b0, []⟩ (idOf b0)
  | i + 1 => (addE (trT i) (trN b0 ps ss i) 0 (idOf (trN b0 ps ss i))).2.2
def trD (i : Nat) : List Dig := (trB b0 ps ss i).map idOf
def trOk (i : Nat) : Prop := ∀ j, j < i → idOf (trN b0 ps ss j) ∉ trD b0 ps ss j
variable {b0 ps ss}
theorem trB_succ (i : Nat) : trB b0 ps ss (i + 1) = trB b0 ps ss i ++ [trN b0 ps ss i] := rfl
theorem trB_len : ∀ i, (trB b0 ps ss i).length = i + 1
  | 0 => rfl
  | i + 1 => by rw [trB_succ, List.length_append, trB_len i]; rfl
theorem trD_succ (i : Nat) : trD b0 ps ss (i + 1) = trD b0 ps ss i ++ [idOf (trN b0 ps ss i)] := by simp [trD, trB_succ]
theorem trOk_succ {i : Nat} : trOk b0 ps ss (i + 1) ↔ trOk b0 ps ss i ∧ idOf (trN b0 ps ss i) ∉ trD b0 ps ss i :=
  ⟨fun h => ⟨fun j hj => h j (by omega), h i (by omega)⟩, fun h j hj => by
    by_cases e : j = i
    · subst e; exact h.2
    · exact h.1 j (by omega)⟩
theorem trN_get (i : Nat) : ∃ p, (trB b0 ps ss i)[uMod (ps.getD i 0) (i + 1)]? = some p ∧ trN b0 ps ss i = chB p (idOf p) (1 + (uMod (ss.getD i 0) 3 : Nat)) (txN (100 + i)) := by
  have hl := trB_len (b0 := b0) (ps := ps) (ss := ss) i
  have hm := (uMod_eq (ps.getD i 0) (m := i + 1) (by omega)).2
  have hg : (trB b0 ps ss i)[uMod (ps.getD i 0) (i + 1)]? = some ((trB b0 ps ss i)[uMod (ps.getD i 0) (i + 1)]'(by omega)) := List.getElem?_eq_getElem (by omega)
  generalize (trB b0 ps ss i)[uMod (ps.getD i 0) (i + 1)]'(by omega) = p at hg
  refine ⟨p, hg, ?_⟩
  unfold trN trX
  rw [hl, List.getD_eq_getElem?_getD, hg]; rfl
structure TrI (b0 : Block) (ps ss : List Int) (i : Nat) : Prop where
  ok : TOk (trT b0 ps ss i)
  nd : (trT b0 ps ss i).nodes = (trB b0 ps ss i).map fun b => (idOf b, b)
  rt : (trT b0 ps ss i).root = idOf b0
  ep : ∀ b ∈ trB b0 ps ss i, b.epoch = 1
  rd : ∀ b ∈ trB b0 ps ss i, b0.round ≤ b.round ∧ b.round ≤ b0.round + 3 * i
theorem TrI.keys {i : Nat} (h : TrI b0 ps ss i) : keysT (trT b0 ps ss i) = trD b0 ps ss i := by unfold keysT trD; rw [h.nd]; simp [Function.comp_def]
theorem TrI.len {i : Nat} (h : TrI b0 ps ss i) : (trT b0 ps ss i).nodes.length = i + 1 := by rw [h.nd, List.length_map, trB_len]
theorem TrI.lk {i j : Nat} {b : Block} (h : TrI b0 ps ss i) (hb : (trB b0 ps ss i)[j]? = some b) : lkN (idOf b) (trT b0 ps ss i).nodes = some b :=
  lkN_at h.ok.nd (i := j) (by rw [h.nd, List.getElem?_map, hb]; rfl)
theorem tri_zero (he : b0.epoch = 1) (hs : smBlk b0) : TrI b0 ps ss 0 where
  ok := newT_ok rfl hs ⟨by simp, fun _ h => by cases h⟩
  nd := rfl
  rt := rfl
  ep := fun b hb => by simp [trB] at hb; subst hb; exact he
  rd := fun b hb => by simp [trB] at hb; subst hb; omega
theorem TrI.x {i : Nat} (h : TrI b0 ps ss i) (h0 : 0 ≤ b0.round) (h1 : b0.round ≤ 500) (hi : i < 100) : ∃ p, (trB b0 ps ss i)[uMod (ps.getD i 0) (i + 1)]? = some p ∧ trN b0 ps ss i = chB p (idOf p) (1 + (uMod (ss.getD i 0) 3 : Nat)) (txN (100 + i)) ∧ p.epoch = 1 ∧ 0 ≤ p.round ∧ b0.round ≤ p.round ∧ p.round ≤ 500 + 3 * i ∧ uMod (ss.getD i 0) 3 < 3 := by
  obtain ⟨p, hp, he⟩ := trN_get (b0 := b0) (ps := ps) (ss := ss) i
  have hm := List.mem_of_getElem? hp
  have := h.rd p hm
  exact ⟨p, hp, he, h.ep p hm, by omega, by omega, by omega, (uMod_eq (ss.getD i 0) (m := 3) (by decide)).2⟩
theorem TrI.err {i : Nat} (h : TrI b0 ps ss i) (h0 : 0 ≤ b0.round) (h1 : b0.round ≤ 500) (hi : i < 100) : (wBlock (trN b0 ps ss i) ⟨0, []⟩).err = 0 := by
  obtain ⟨p, _, e, hep, hr0, _, hr1, hs⟩ := h.x h0 h1 hi
  rw [e]
  exact blk_err (by rw [hep]; decide) (by omega) (by rw [hep]; decide) (by omega)
theorem trN_sm (i : Nat) : smBlk (trN b0 ps ss i) := smB_ch
theorem TrI.twice {i : Nat} (h : TrI b0 ps ss i) (hf : idOf (trN b0 ps ss i) ∈ trD b0 ps ss i) : addE (trT b0 ps ss i) (trN b0 ps ss i) 0 (idOf (trN b0 ps ss i)) = (17, dig0, trT b0 ps ss i) := by
  rw [← h.keys] at hf
  cases hl : lkN (idOf (trN b0 ps ss i)) (trT b0 ps ss i).nodes with
  | none => exact absurd hf (lkN_none.1 hl)
  | some x =>
    unfold addE
    rw [askE_there hl, if_neg (by decide)]
theorem TrI.step {i : Nat} (h : TrI b0 ps ss i) (h0 : 0 ≤ b0.round) (h1 : b0.round ≤ 500) (hi : i < 14) (hf : idOf (trN b0 ps ss i) ∉ trD b0 ps ss i) :
    addE (trT b0 ps ss i) (trN b0 ps ss i) 0 (idOf (trN b0 ps ss i)) = (0, idOf (trN b0 ps ss i), trT b0 ps ss (i + 1)) ∧ TrI b0 ps ss (i + 1) := by
  obtain ⟨p, hp, e, hep, hr0, hrb, hr1, hs⟩ := h.x h0 h1 (by omega)
  have hlk := h.lk hp
  have hnone : lkN (idOf (trN b0 ps ss i)) (trT b0 ps ss i).nodes = none := lkN_none.2 (by
    have hk := h.keys; unfold keysT at hk; rw [hk]; exact hf)
  have hpar : (trN b0 ps ss i).parent = idOf p := by rw [e]; rfl
  have hjus : (trN b0 ps ss i).justify = ⟨p.epoch, p.round, idOf p, []⟩ := by rw [e]; rfl
  have hfit : fitsQ (trN b0 ps ss i).justify (trN b0 ps ss i).parent p = true := by rw [hpar, hjus]; simp [fitsQ]
  have hround : (trN b0 ps ss i).round = p.round + (1 + (uMod (ss.getD i 0) 3 : Nat)) := by rw [e]; rfl
  have hepoch : (trN b0 ps ss i).epoch = 1 := by rw [e]; exact hep
  have hask : askE (trT b0 ps ss i) (trN b0 ps ss i) 0 (idOf (trN b0 ps ss i)) = 0 := askE_mk hnone (by rw [hpar]; exact hlk) hfit (by rw [hepoch, hep]) (by rw [hround]; omega) (by rw [h.len]; omega)
  have hlk2 : lkN (idOf p) (putT (trT b0 ps ss i) (trN b0 ps ss i) (idOf (trN b0 ps ss i))).nodes = some p := by
    show lkN _ ((trT b0 ps ss i).nodes ++ _) = _
    rw [lkN_append, hlk]; rfl
  have hle : (learnE (putT (trT b0 ps ss i) (trN b0 ps ss i) (idOf (trN b0 ps ss i))) (trN b0 ps ss i).justify).1 = 0 := by
    unfold learnE
    rw [show (trN b0 ps ss i).justify.block = idOf p by rw [hjus], hlk2]
    have : fitsQ (trN b0 ps ss i).justify (idOf p) p = true := by rw [← hpar]; exact hfit
    simp only [this, if_true]
  have hadd : addE (trT b0 ps ss i) (trN b0 ps ss i) 0 (idOf (trN b0 ps ss i)) = (0, idOf (trN b0 ps ss i), trT b0 ps ss (i + 1)) := by
    show _ = (0, _, (addE (trT b0 ps ss i) (trN b0 ps ss i) 0 (idOf (trN b0 ps ss i))).2.2)
    unfold addE
    rw [if_pos hask, hle]
  have hno : (trT b0 ps ss (i + 1)).nodes = (trT b0 ps ss i).nodes ++ [(idOf (trN b0 ps ss i), trN b0 ps ss i)] ∧ (trT b0 ps ss (i + 1)).root = (trT b0 ps ss i).root := by
    have e3 : trT b0 ps ss (i + 1) = (learnE (putT (trT b0 ps ss i) (trN b0 ps ss i) (idOf (trN b0 ps ss i))) (trN b0 ps ss i).justify).2 := by
      show (addE (trT b0 ps ss i) (trN b0 ps ss i) 0 (idOf (trN b0 ps ss i))).2.2 = _
      unfold addE; rw [if_pos hask]
    rw [e3]
    unfold learnE
    split
    · exact ⟨rfl, rfl⟩
    · split
      · dsimp only
        split <;> exact ⟨rfl, rfl⟩
      · exact ⟨rfl, rfl⟩
  refine ⟨hadd, ?_, ?_, ?_, ?_, ?_⟩
  · have := addE_ok h.ok (b := trN b0 ps ss i) (err := 0) (id := idOf (trN b0 ps ss i)) (trN_sm i)
    exact this
  · rw [hno.1, h.nd, trB_succ, List.map_append]; rfl
  · rw [hno.2, h.rt]
  · intro b hb
    rw [trB_succ] at hb
    rcases List.mem_append.1 hb with hb | hb
    · exact h.ep b hb
    · simp at hb; subst hb; exact hepoch
  · intro b hb
    rw [trB_succ] at hb
    rcases List.mem_append.1 hb with hb | hb
    · have := h.rd b hb; omega
    · simp at hb; subst hb
      have hm := h.rd p (List.mem_of_getElem? hp)
      rw [hround]; omega
theorem tri_all (he : b0.epoch = 1) (hs : smBlk b0) (h0 : 0 ≤ b0.round) (h1 : b0.round ≤ 500) : ∀ {i : Nat}, i ≤ 13 → trOk b0 ps ss i → TrI b0 ps ss i
  | 0, _, _ => tri_zero he hs
  | i + 1, hi, ho => (TrI.step (tri_all he hs h0 h1 (i := i) (by omega) (trOk_succ.1 ho).1) h0 h1 (by omega) (trOk_succ.1 ho).2).2
end
end
section
def RdNd (cs : List Value) (x : (Dig × Block) × List Value) : Prop := cs = dc x.1.1 ++ x.2 ∧ ∃ w A, RdBlock w A x.2 x.1.2
def RdQs (cs : List Value) (x : QC) : Prop := ∃ w A, RdQC w A cs x
def mdC (t : Tr) (na : Option Addr) (nc : Nat) (ca : Option Addr) (cc : Nat) : List Value := dc t.root ++ [.slice na t.nodes.length nc, .slice ca t.certs.length cc]
theorem mdC_len (t : Tr) (na : Option Addr) (nc : Nat) (ca : Option Addr) (cc : Nat) : (mdC t na nc ca cc).length = 18 := by simp [mdC, dc_length]
structure MdM (w : World) (A : Nat → Prop) (m : Nat) (t : Tr) (css : List (List Value)) (na : Option Addr) (nc : Nat) (ca : Option Addr) (cc : Nat) : Prop where
  row : RdRow w A 18 (some ⟨m, 0, none⟩) 1 (mdC t na nc ca cc)
  ln : css.length = t.nodes.length
  ns : RdList RdNd w A 55 na t.nodes.length (t.nodes.zip css)
  cs : RdList RdQs w A 19 ca t.certs.length t.certs
def RdMod (w : World) (A : Nat → Prop) (m : Nat) (t : Tr) (css : List (List Value)) : Prop := ∃ na nc ca cc, MdM w A m t css na nc ca cc
theorem MdM.mv {w w' : World} {A A' : Nat → Prop} {m : Nat} {t : Tr} {css : List (List Value)} {na : Option Addr} {nc : Nat} {ca : Option Addr} {cc : Nat} (h : MdM w A m t css na nc ca cc) (hk : Still w A w' A') : MdM w' A' m t css na nc ca cc :=
  ⟨h.row.mv hk, h.ln, h.ns.mv hk fun _ _ h => h, h.cs.mv hk fun _ _ h => h⟩
theorem RdMod.mv {w w' : World} {A A' : Nat → Prop} {m : Nat} {t : Tr} {css : List (List Value)} (h : RdMod w A m t css) (hk : Still w A w' A') : RdMod w' A' m t css := by
  obtain ⟨na, nc, ca, cc, h⟩ := h; exact ⟨na, nc, ca, cc, h.mv hk⟩
theorem MdM.cells {w : World} {A : Nat → Prop} {m : Nat} {t : Tr} {css : List (List Value)} {na : Option Addr} {nc : Nat} {ca : Option Addr} {cc : Nat} (h : MdM w A m t css na nc ca cc) : A m ∧ w.rangeAt m 0 (dc t.root) ∧ w.cell? ⟨m, 16, none⟩ = some (.slice na t.nodes.length nc) ∧ w.cell? ⟨m, 17, none⟩ = some (.slice ca t.certs.length cc) := by
  obtain ⟨g', o, ha, hA, _, hr⟩ := h.row.2.2 (by decide)
  cases ha
  have hd := dc_length t.root
  refine ⟨hA, fun j v hj => hr j v ?_, hr 16 _ ?_, hr 17 _ ?_⟩
  · rw [mdC, List.getElem?_append_left ((List.getElem?_eq_some_iff.1 hj).1)]; exact hj
  all_goals (rw [mdC, List.getElem?_append_right (by rw [hd]; decide), hd]; rfl)
def idxN (d : Dig) : Nat → List (Dig × Block) → Int
  | _, [] => -1
  | k, p :: l => if p.1 = d then (k : Int) else idxN d (k + 1) l
theorem idxN_none {d : Dig} : ∀ {l : List (Dig × Block)} {k : Nat}, lkN d l = none → idxN d k l = -1
  | [], _, _ => rfl
  | p :: l, k, h => by
    unfold lkN at h
    split at h
    · cases h
    · rename_i hne
      rw [idxN, if_neg (fun e => hne e.symm)]; exact idxN_none h
theorem idxN_some {d : Dig} {b : Block} : ∀ {l : List (Dig × Block)} {k : Nat}, lkN d l = some b → ∃ j, idxN d k l = ((k + j : Nat) : Int) ∧ l[j]? = some (d, b)
  | [], _, h => by cases h
  | p :: l, k, h => by
    unfold lkN at h
    split at h
    · rename_i e
      cases h
      exact ⟨0, by rw [idxN, if_pos e.symm]; rfl, by subst e; rfl⟩
    · rename_i hne
      obtain ⟨j, h1, h2⟩ := idxN_some (k := k + 1) h
      exact ⟨j + 1, by rw [idxN, if_neg (fun e => hne e.symm), h1]; congr 1; omega, h2⟩
theorem idxN_hit {d : Dig} : ∀ {l : List (Dig × Block)} {k j : Nat} {p : Dig × Block}, (∀ i, i < j → ∀ r, l[i]? = some r → r.1 ≠ d) → l[j]? = some p → p.1 = d → idxN d k l = ((k + j : Nat) : Int)
  | [], _, _, _, _, h, _ => by simp at h
  | q :: l, k, 0, p, _, h, he => by simp at h; subst h; rw [idxN, if_pos he]; rfl
  | q :: l, k, j + 1, p, hm, h, he => by
    rw [idxN, if_neg (hm 0 (by omega) q rfl), idxN_hit (k := k + 1) (j := j) (fun i hi r hr => hm (i + 1) (by omega) r (by simpa using hr)) (by simpa using h) he]
    congr 1; omega
theorem idxN_miss {d : Dig} {l : List (Dig × Block)} (h : ∀ i, i < l.length → ∀ r, l[i]? = some r → r.1 ≠ d) : idxN d 0 l = -1 :=
  idxN_none (lkN_none.2 fun hm => by
    obtain ⟨p, hp, e⟩ := List.mem_map.1 hm
    obtain ⟨i, hi, he⟩ := List.mem_iff_getElem.1 hp
    exact h i hi p (by rw [List.getElem?_eq_getElem hi, he]) e)
theorem zip_at {α β : Type} {l : List α} {m : List β} {i : Nat} {x : α × β} (h : (l.zip m)[i]? = some x) : l[i]? = some x.1 ∧ m[i]? = some x.2 := List.getElem?_zip_eq_some.1 h
def ndC (t : Tr) (css : List (List Value)) : List (List Value) := (t.nodes.zip css).map fun x => dc x.1.1 ++ x.2
structure MdF (t : Tr) (css qss : List (List Value)) : Prop where
  ln : css.length = t.nodes.length
  n : ∀ (i : Nat) c p, css[i]? = some c → t.nodes[i]? = some p → ∃ w A, RdBlock w A c p.2
  lq : qss.length = t.certs.length
  q : ∀ (i : Nat) c x, qss[i]? = some c → t.certs[i]? = some x → ∃ w A, RdQC w A c x
theorem MdF.nd {t : Tr} {css qss : List (List Value)} (h : MdF t css qss) : ∀ c ∈ ndC t css, c.length = 55 := fun c hc => by
  obtain ⟨x, hx, rfl⟩ := List.mem_map.1 hc
  obtain ⟨i, hi, he⟩ := List.mem_iff_getElem.1 hx
  have h1 := zip_at (i := i) (x := x) (by rw [List.getElem?_eq_getElem hi, he])
  obtain ⟨w, A, hr⟩ := h.n i x.2 x.1 h1.2 h1.1
  rw [List.length_append, dc_length, hr.len]
theorem MdF.qs {t : Tr} {css qss : List (List Value)} (h : MdF t css qss) : ∀ c ∈ qss, c.length = 19 := fun c hc => by
  obtain ⟨i, hi, he⟩ := List.mem_iff_getElem.1 hc
  obtain ⟨w, A, hr⟩ := h.q i c (t.certs[i]'(by rw [← h.lq]; exact hi)) (by rw [List.getElem?_eq_getElem hi, he]) (List.getElem?_eq_getElem _)
  exact hr.len
theorem ndC_at {t : Tr} {css : List (List Value)} {i : Nat} {p : Dig × Block} {c : List Value} (hp : t.nodes[i]? = some p) (hc : css[i]? = some c) : (ndC t css)[i]? = some (dc p.1 ++ c) := by
  unfold ndC
  rw [List.getElem?_map, show (t.nodes.zip css)[i]? = some (p, c) from List.getElem?_zip_eq_some.2 ⟨hp, hc⟩]; rfl
theorem flat_cell {size : Nat} {css : List (List Value)} {i r : Nat} {c : List Value} {v : Value} (h : ∀ c ∈ css, c.length = size) (hc : css[i]? = some c) (hr : r < size) (hv : c[r]? = some v) : css.flatten[i * size + r]? = some v := by
  have hf := flatten_at h hc
  rw [← hf, List.getElem?_take, if_pos hr, List.getElem?_drop] at hv
  exact hv
def ModR (m : Nat) (t : Tr) (css : List (List Value)) : Res := exR fun x : ((Option Addr × Nat) × (Option Addr × Nat)) × List (List Value) =>
  allR [pureR (MdF t css x.2), blk m 99 (dc t.root ++ [.slice x.1.1.1 t.nodes.length x.1.1.2, .slice x.1.2.1 t.certs.length x.1.2.2]), rowR 101 55 x.1.1.1 t.nodes.length x.1.1.2 (ndC t css).flatten, rowR 47 19 x.1.2.1 t.certs.length x.1.2.2 x.2.flatten]
abbrev mdL (m : Nat) (t : Tr) (css : List (List Value)) (na : Option Addr) (nc : Nat) (ca : Option Addr) (cc : Nat) (qss : List (List Value)) (L : List Res) : List Res :=
  blk m 99 (dc t.root ++ [.slice na t.nodes.length nc, .slice ca t.certs.length cc]) :: rowR 101 55 na t.nodes.length nc (ndC t css).flatten :: rowR 47 19 ca t.certs.length cc qss.flatten :: L
section
variable {w0 w : World} {F F0 : Nat → Prop} {L L' : List Res} {Q : Exit → Act → World → Prop} {n : Fm} {env : Env} {ops : Array Oper} {rest : List Oper} {m : Nat} {t : Tr} {css : List (List Value)}
theorem mod_open (h : stars (ModR m t css :: L) w F) : ∃ na nc ca cc qss, MdF t css qss ∧ stars (mdL m t css na nc ca cc qss L) w F := by
  obtain ⟨⟨⟨⟨na, nc⟩, ⟨ca, cc⟩⟩, qss⟩, h⟩ := stars_ex h
  obtain ⟨h1, h2⟩ := stars_pure (stars_all h)
  exact ⟨na, nc, ca, cc, qss, h1, h2⟩
theorem mod_shut {na : Option Addr} {nc : Nat} {ca : Option Addr} {cc : Nat} {qss : List (List Value)} (hf : MdF t css qss) (h : stars (mdL m t css na nc ca cc qss L) w F) : stars (ModR m t css :: L) w F :=
  stars_ex_mk (((na, nc), (ca, cc)), qss) (stars_all_mk (stars_pure_mk hf h))
theorem mod_shut1 {na : Option Addr} {nc : Nat} {ca : Option Addr} {cc : Nat} {qss : List (List Value)} (hf : MdF t css qss) (h : stars (mdL m t css na nc ca cc qss []) w F) : stars [ModR m t css] w F := mod_shut hf h
theorem gc_mod {c : Code} (hp : Pick L (ModR m t css) L') (k : ∀ na nc ca cc qss, MdF t css qss → Gc Tryz.prog w0 F0 (mdL m t css na nc ca cc qss L') c Q n env) : Gc Tryz.prog w0 F0 L c Q n env := fun w hw => by
  obtain ⟨F, hF, hst⟩ := hw.pick hp
  obtain ⟨na, nc, ca, cc, qss, hf, h⟩ := mod_open hF
  exact k na nc ca cc qss hf w ⟨F, h, hst⟩
theorem mod_rd1 (h : stars [ModR m t css] w F) : RdMod w F m t css := by
  obtain ⟨na, nc, ca, cc, qss, hf, h⟩ := mod_open h
  obtain ⟨F1, R1, h1, k1, e1, _⟩ := h
  obtain ⟨F2, R2, h2, k2, e2, _⟩ := k1
  obtain ⟨F3, R3, h3, k3, e3, _⟩ := k2
  have s1 : ∀ k, F1 k → F k := fun k hk => (e1 k).2 (.inl hk)
  have s2 : ∀ k, F2 k → F k := fun k hk => (e1 k).2 (.inr ((e2 k).2 (.inl hk)))
  have s3 : ∀ k, F3 k → F k := fun k hk => (e1 k).2 (.inr ((e2 k).2 (.inr ((e3 k).2 (.inl hk)))))
  have hlt := mdC_len t na nc ca cc
  refine ⟨na, nc, ca, cc, ?_, hf.ln, ?_, ?_⟩
  · exact (RdRow.of_blk h1 (n := 1) (size := 18) (o := 0) (by rw [List.drop_zero]; exact List.take_of_length_le (by rw [← mdC, hlt]; decide)) (by rw [hlt]) (by decide)).mv (still_sub s1)
  · refine ⟨ndC t css, (rowR.rd h2).mv (still_sub s2), hf.nd, by simp [ndC], fun i c x hc hx => ?_⟩
    unfold ndC at hc
    rw [List.getElem?_map, hx] at hc; cases hc
    have h1 := zip_at hx
    exact ⟨rfl, hf.n i x.2 x.1 h1.2 h1.1⟩
  · exact ⟨qss, (rowR.rd h3).mv (still_sub s3), hf.qs, hf.lq, fun i c x hc hx => hf.q i c x hc hx⟩
theorem md_rd {F1 F2 : Nat → Prop} (h2 : stars L w F2) (hd : ∀ k, F1 k → ¬ F2 k) (hp : Pick L (ModR m t css) L') : RdMod w (fun k => ¬ F1 k) m t css := by
  obtain ⟨G1, h1, hs⟩ := stars_pick hp h2
  exact (mod_rd1 (stars_one h1)).mv (still_sub fun k hk h' => hd k h' (hs k hk))
end
attribute [local irreducible] Gl Gc Gx Gs Runs Wt
attribute [local irreducible] dc qcC blkC idOf
theorem rfind_ok {w : World} {F : Nat → Prop} {m : Nat} {t : Tr} {css : List (List Value)} (hx : RdMod w (fun k => ¬ F k) m t css) (hok : TOk t) {d : Dig} (h : stars [] w F) :
    Calls Tryz.prog 38 #[.pointer (some ⟨m, 0, none⟩), .agg (dc d).toArray] w (Post w F (fun _ : Unit => .int .i64 (idxN d 0 t.nodes)) (fun _ => [])) := by
 obtain ⟨na, nc, ca, cc, hM⟩ := hx; obtain ⟨hmA, hrt, h16, h17⟩ := hM.cells; have hle := hok.le
 have hcl := hok.cl
 refine g_enter (env := [(0, .pointer (some ⟨m, 0, none⟩)), (1, .agg (dc d).toArray)]) Tryz.func38 rfl h Tryz.ntmps38 rfl rfl ?_; refine gsr (zbN fun b3 => ?_); refine zxa ?_; refine gnt (gc_seq (gsr (zxm ?_))); refine gp znc ?_; refine gp zfa ?_; refine gp (r_ld1o rfl Ty.row_96 h16 hmA) ?_; refine gp zln ?_; refine zxm ?_; refine gnt (gc_block (gc_loop (α := Nat) (fun k => [pureR (k ≤ t.nodes.length ∧ ∀ i, i < k → ∀ r, t.nodes[i]? = some r → r.1 ≠ d), blk b3 27 (dc d)]) (fun k => [(12, .int .i64 (k : Int))]) [4, 5, 6, 13, 14, 15, 16, 17, 18, 19, 20, 21, 22] (fun k => t.nodes.length - k) 0 ?_ ?_ ?_))
 ·refine env_start (by kernel_rfl)
 ·exact zlp ⟨Nat.zero_le _, fun i hi => absurd hi (Nat.not_lt_zero _)⟩
 ·intro k u; refine gc_pureR (fun hk => ?_)
  replace hk : k ≤ t.nodes.length ∧ ∀ i, i < k → ∀ r, t.nodes[i]? = some r → r.1 ≠ d := hk
  refine gsr (gp zlt ?_); refine gnt (gc_seq (gif rfl (fun hc13 => ?_) (fun hc13 => ?_)))
  ·try simp only at hc13
   have hk' : k < t.nodes.length := by omega
   obtain ⟨ga, oa, ce, x, ha, hA, _, hra, hl55, hx, rfl, wq, Aq, hrd⟩ := hM.ns.elem (i := k) (by decide) hk'; subst ha; have hnd := zip_at hx
   have i39 := Len.of hrd.len
   have j39 := One.of hrd.one
   refine gc_skip (gx_then (gc_seq (gc_block (gsr (zxm ?_))))); refine gp (r_val (v' := .pointer (some ⟨ga, oa + k * 55, none⟩)) zia (by simp)) ?_; refine gp (r_ldNo (seg := dc x.1.1 ++ x.2) rfl Ty.row_101 Ty.sz_101 hra hl55 (by decide) hA) ?_; refine zal fun b6 => ?_; refine zxa ?_; refine zsA hl55 (all_app' (dc_one _) hrd.one) ?_; refine zxs ?_; refine gp zfa ?_; refine gp zL ?_; refine gp zL ?_; refine gp zed ?_; refine gnt (gif rfl (fun hc20 => ?_) (fun hc20 => ?_))
   ·try simp only at hc20
    have hf := idxN_hit (k := 0) hk.2 hnd.1 (by simpa using hc20)
    rw [Nat.zero_add] at hf; refine gsr (zxm ?_); refine zxa ?_; refine gnt (gc_ret (gx_block_ret ?_)); refine gx_then_ret (gx_round_ret ?_); refine gx_block_ret ?_; refine gx_then_ret (gx_ret1 rfl (by conv => lhs; whnf) ?_); exact fun w' hw => ⟨(), by rw [hf], hw.z⟩
   ·try simp only at hc20
    have hne : ¬ x.1.1 = d := by simpa using hc20
    refine gc_skip (gx_block_normal (gx_then (gc_region (gp zad ?_)))); refine zxm ?_; refine gl_nil (zrd (k + 1) ?_ ?_)
    ·show t.nodes.length - (k + 1) < t.nodes.length - k
     omega
    ·exact zlp (show k + 1 ≤ t.nodes.length ∧ ∀ i, i < k + 1 → ∀ r, t.nodes[i]? = some r → r.1 ≠ d from ⟨by omega, fun i hi r hr => (by by_cases h' : i < k; exact hk.2 i h' r hr; (obtain rfl : i = k := by omega); rw [hnd.1] at hr; cases hr; exact hne)⟩)
  ·try simp only at hc13
   obtain rfl : k = t.nodes.length := by omega
   have hf := idxN_miss (d := d) hk.2
   refine gc_exit ?_; refine gx_then_exit ?_; refine gx_round_exit ?_; refine gx_block_hit ?_; refine gx_then (gsr (zxa ?_)); refine gnt (gc_ret (gx_ret1 rfl (by conv => lhs; whnf) ?_)); exact fun w' hw => ⟨(), by rw [hf], hw.z⟩
theorem rcert_ok {w : World} {F : Nat → Prop} {m : Nat} {t : Tr} {css : List (List Value)} (hx : RdMod w (fun k => ¬ F k) m t css) (hok : TOk t) {d : Dig} (h : stars [] w F) :
    Calls Tryz.prog 87 #[.pointer (some ⟨m, 0, none⟩), .agg (dc d).toArray] w (Post w F (fun _ : Unit => .int .i64 (idxQ d 0 t.certs)) (fun _ => [])) := by
 obtain ⟨na, nc, ca, cc, hM⟩ := hx; obtain ⟨hmA, hrt, h16, h17⟩ := hM.cells; have hle := hok.le
 have hcl := hok.cl
 refine g_enter (env := [(0, .pointer (some ⟨m, 0, none⟩)), (1, .agg (dc d).toArray)]) Tryz.func87 rfl h Tryz.ntmps87 rfl rfl ?_; refine gsr (zbN fun b3 => ?_); refine zxa ?_; refine gnt (gc_seq (gsr (zxm ?_))); refine gp znc ?_; refine gp zfa ?_; refine gp (r_ld1o rfl Ty.row_97 h17 hmA) ?_; refine gp zln ?_; refine zxm ?_; refine gnt (gc_block (gc_loop (α := Nat) (fun k => [pureR (k ≤ t.certs.length ∧ ∀ i, i < k → ∀ r, t.certs[i]? = some r → r.block ≠ d), blk b3 27 (dc d)]) (fun k => [(12, .int .i64 (k : Int))]) [4, 5, 6, 13, 14, 15, 16, 17, 18, 19, 20, 21, 22] (fun k => t.certs.length - k) 0 ?_ ?_ ?_))
 ·refine env_start (by kernel_rfl)
 ·exact zlp ⟨Nat.zero_le _, fun i hi => absurd hi (Nat.not_lt_zero _)⟩
 ·intro k u; refine gc_pureR (fun hk => ?_)
  replace hk : k ≤ t.certs.length ∧ ∀ i, i < k → ∀ r, t.certs[i]? = some r → r.block ≠ d := hk
  refine gsr (gp zlt ?_); refine gnt (gc_seq (gif rfl (fun hc13 => ?_) (fun hc13 => ?_)))
  ·try simp only at hc13
   have hk' : k < t.certs.length := by omega
   obtain ⟨ga, oa, ce, x, ha, hA, _, hra, hl19, hnd, wq, Aq, hrd⟩ := hM.cs.elem (i := k) (by decide) hk'; subst ha; obtain ⟨qa, qn, qc, rfl, _, _⟩ := hrd; refine gc_skip (gx_then (gc_seq (gc_block (gsr (zxm ?_))))); refine gp (r_val (v' := .pointer (some ⟨ga, oa + k * 19, none⟩)) zia (by simp)) ?_; refine gp (r_ldNo rfl Ty.row_47 Ty.sz_47 hra hl19 (by decide) hA) ?_; refine zal fun b6 => ?_; refine zxa ?_; refine zsA hl19 (all_cons' rfl (all_cons' rfl (all_app' (dc_one _) (all_cons' rfl all_nil')))) ?_; refine zxs ?_; refine gp zfa ?_; refine gp zL ?_; refine gp zL ?_; refine gp zed ?_; refine gnt (gif rfl (fun hc20 => ?_) (fun hc20 => ?_))
   ·try simp only at hc20
    have hf := (idxQ_hit hk.2 hnd (by simpa using hc20)).1
    refine gsr (zxm ?_); refine zxa ?_; refine gnt (gc_ret (gx_block_ret ?_)); refine gx_then_ret (gx_round_ret ?_); refine gx_block_ret ?_; refine gx_then_ret (gx_ret1 rfl (by conv => lhs; whnf) ?_); exact fun w' hw => ⟨(), by rw [hf], hw.z⟩
   ·try simp only at hc20
    have hne : ¬ x.block = d := by simpa using hc20
    refine gc_skip (gx_block_normal (gx_then (gc_region (gp zad ?_)))); refine zxm ?_; refine gl_nil (zrd (k + 1) ?_ ?_)
    ·show t.certs.length - (k + 1) < t.certs.length - k
     omega
    ·exact zlp (show k + 1 ≤ t.certs.length ∧ ∀ i, i < k + 1 → ∀ r, t.certs[i]? = some r → r.block ≠ d from ⟨by omega, fun i hi r hr => (by by_cases h' : i < k; exact hk.2 i h' r hr; (obtain rfl : i = k := by omega); rw [hnd] at hr; cases hr; exact hne)⟩)
  ·try simp only at hc13
   obtain rfl : k = t.certs.length := by omega
   have hf := (idxQ_miss (d := d) hk.2).1
   refine gc_exit ?_; refine gx_then_exit ?_; refine gx_round_exit ?_; refine gx_block_hit ?_; refine gx_then (gsr (zxa ?_)); refine gnt (gc_ret (gx_ret1 rfl (by conv => lhs; whnf) ?_)); exact fun w' hw => ⟨(), by rw [hf], hw.z⟩
end
section
theorem St.vlOfB {w0 w : World} {F0 : Nat → Prop} {L L' : List Res} {cs : List Value} {x : Block} (h : St w0 F0 L w) (hp : Pick L (VlR RdBlock cs x) L') : ∃ w A, RdBlock w A cs x := by
  obtain ⟨F, hF, _⟩ := h
  obtain ⟨F1, h1, _⟩ := stars_pick hp hF
  exact ⟨w, F1, h1.1⟩
theorem txN_eq (k : Nat) : Value.int .u8 (IntKind.u8.wrap (k : Int)) = B8 (txN k) := byte_int
attribute [local irreducible] Gl Gc Gx Gs Runs Wt
attribute [local irreducible] dc qcC blkC idOf TreeR RdBlock RdQC gid fkT genC chC
end
section
attribute [local irreducible] Gl Gc Gx Gs Runs Wt
attribute [local irreducible] dc qcC blkC idOf ModR TreeR
theorem next19_ok {w : World} {F : Nat → Prop} {w' : World} {A : Nat → Prop} {cs : List Value} {b : Block} {id : Dig} {on : Int} {k : Nat} (h : stars [] w F) (hb : RdBlock w' A cs b) (h1 : -1000000000 ≤ b.round ∧ b.round ≤ 1000000000) (h2 : -1000000000 ≤ on ∧ on ≤ 1000000000) :
    Calls Tryz.prog 25 #[.agg cs.toArray, .agg (dc id).toArray, .int .i64 on, .int .i64 (k : Int)] w (Post w F (fun x : Nat × Nat => .agg (chC b id on x.2).toArray) (fun x => [rowR 68 1 (some ⟨x.2, 0, none⟩) 1 1 [.slice (some ⟨x.1, 0, none⟩) 1 1], rowR 5 1 (some ⟨x.1, 0, none⟩) 1 1 [B8 (txN k)]])) := by
 obtain ⟨qj, a1, n1, c1, a2, n2, c2, rfl, hj, _⟩ := hb; have ij := Len.of hj.len
 have jj := One.of hj.one
 refine g_enter (env := [(0, _), (1, .agg (dc id).toArray), (2, .int .i64 on), (3, .int .i64 (k : Int))]) Tryz.func25 rfl h Tryz.ntmps25 rfl rfl ?_; refine gsr (zbN fun b4 => ?_); refine zbN fun b5 => ?_; refine zal fun b8 => ?_; refine gl_eqc (cs' := blkC) (by repeat (first | exact Pick.here | apply Pick.there)) (by kernel_rfl) ?_; refine zxs ?_; refine gp zfa ?_; refine gp zl ?_; refine gp zfa ?_; refine gp zl ?_; refine zxm ?_; refine gp (r_int (j := b.round + on) zad (wrap_i64 (by omega) (by omega))) ?_; refine gp zL ?_; refine gp zfa ?_; refine gp zl ?_; refine gp zfa ?_; refine gp zl ?_; refine gp zL ?_; refine gp (zbu (cs := .int .i64 b.epoch :: .int .i64 b.round :: (dc id ++ [.slice none 0 0]))) ?_; refine zxm ?_; refine gp (r_val zci (txN_eq k)) ?_; refine ze1 fun b24 => ?_; refine ze1 fun b25 => ?_; refine gp (zbu (cs := .int .i64 b.epoch :: .int .i64 (b.round + on) :: (dc id ++ (.int .i64 b.epoch :: .int .i64 b.round :: (dc id ++ [.slice none 0 0, .slice (some ⟨b25, 0, none⟩) 1 1, .slice none 0 0]))))) ?_; refine zsN ?_; refine gnt (gc_ret (gx_retc rfl rfl (ldA Ty.row_51 Ty.sz_51) ?_))
 exact ze (b24, b25)
theorem rnewM_ok {w : World} {F : Nat → Prop} {cs qs : List Value} {b : Block} {q : QC} (h : stars [] w F) (hb : RdBlock w (fun k => ¬ F k) cs b) (ho : OkBlock b) (hq : RdQC w (fun k => ¬ F k) qs q) (he0 : (wBlock b ⟨0, []⟩).err = 0) (hf : fitsQ q (idOf b) b = true) :
    Calls Tryz.prog 28 #[.agg cs.toArray, .agg qs.toArray] w (Post w F (fun x : Nat => .tuple #[.pointer (some ⟨x, 0, none⟩), .int .i64 0]) (fun x => [ModR x (newT b q (idOf b)) [cs]])) := by
 have il := Len.of hb.len
 have jl := One.of hb.one
 have il2 := Len.of hq.len
 have jl2 := One.of hq.one
 have ilx : Len (dc (idOf b) ++ cs) 55 := Len.of (by rw [List.length_append, dc_length, hb.len])
 have jlx : One (dc (idOf b) ++ cs) := One.of (all_app' (dc_one _) hb.one)
 refine g_enter (env := [(0, .agg cs.toArray), (1, .agg qs.toArray)]) Tryz.func28 rfl h Tryz.ntmps28 rfl rfl ?_; refine gsr (zbN fun b2 => ?_); refine zbN fun b3 => ?_; refine zxa ?_; refine zxa ?_; refine zxs ?_; refine gp (zLa (cs := cs)) ?_; refine zc (fun _ => ?_) (c := fun w1 F1 F2 h1 h2 hd hst => rid_ok h1 (hb.mv hst.still) ho)
 refine zxm ?_; refine gp zex ?_; refine gp zex ?_; refine zal fun b6 => ?_; refine zsA (dc_length _) (dc_one _) ?_; refine zxa ?_; refine gnt (gc_seq (gsr (zxm ?_))); refine gp (r_bool (c := false) zni (by simp [he0])) ?_; refine gnt (gc_condF rfl rfl ?_); refine gc_skip (gx_then (gsr (gp (zLa (cs := dc (idOf b))) ?_))); refine gp (zLa (cs := cs)) ?_; refine gp (zbu (cs := dc (idOf b) ++ cs)) ?_; refine zal fun b8 => ?_; refine zsA Len.h One.h ?_; refine gnt (gc_seq (gsr (gp (zLa (cs := qs)) ?_))); refine gp (zLa (cs := dc (idOf b) ++ cs)) ?_; refine zc (fun _ => ?_) (c := fun w1 F1 F2 h1 h2 hd hst => rfits_ok h1 hq hb)
 refine gp (r_bool (c := false) znt (by rw [hf]; rfl)) ?_; refine gnt (gc_condF rfl rfl ?_); refine gc_skip (gx_then (gsr (gp (zLa (cs := dc (idOf b))) ?_))); refine gp (zLa (cs := dc (idOf b) ++ cs)) ?_; refine zeN fun b25 => ?_; refine gp (zLa (cs := qs)) ?_; refine zeN fun b27 => ?_; refine gp (zbu (cs := dc (idOf b) ++ [.slice (some ⟨b25, 0, none⟩) 1 1, .slice (some ⟨b27, 0, none⟩) 1 1])) ?_; refine zbN fun b29 => ?_; refine zxa ?_; refine zxa ?_; refine gnt (gc_ret (gx_ret2 rfl (by conv => lhs; whnf) (by conv => lhs; whnf) ?_)); intro w' hw; have h3 := hw.cz (M := [blk b29 99 (dc (idOf b) ++ [.slice (some ⟨b25, 0, none⟩) 1 1, .slice (some ⟨b27, 0, none⟩) 1 1]), rowR 101 55 (some ⟨b25, 0, none⟩) 1 1 (dc (idOf b) ++ cs), rowR 47 19 (some ⟨b27, 0, none⟩) 1 1 qs]) (N := [ModR b29 (newT b q (idOf b)) [cs]]) (fun w'' F'' h'' => mod_shut1 (t := newT b q (idOf b)) (css := [cs]) (qss := [qs]) (na := some ⟨b25, 0, none⟩) (nc := 1) (ca := some ⟨b27, 0, none⟩) (cc := 1) ⟨rfl, fun i c p hc hp => (by match i with | 0 => (simp at hc; subst hc; simp [newT] at hp; subst hp; exact ⟨_, _, hb⟩) | i + 1 => (simp at hc)), rfl, fun i c x hc hp => (by match i with | 0 => (simp at hc; subst hc; simp [newT] at hp; subst hp; exact ⟨_, _, hq⟩) | i + 1 => (simp at hc))⟩ (by simpa [mdL, ndC, newT] using h''))
 exact ⟨b29, rfl, h3.z⟩
theorem rlearn_ok {w : World} {F : Nat → Prop} {m : Nat} {t : Tr} {css : List (List Value)} (h : stars [ModR m t css] w F) (hok : TOk t) {qs : List Value} {x : QC} {p : Block} (hq : RdQC w (fun k => ¬ F k) qs x) (hp : lkN x.block t.nodes = some p) (hf : fitsQ x x.block p = true) :
    Calls Tryz.prog 58 #[.pointer (some ⟨m, 0, none⟩), .agg qs.toArray] w (Post w F (fun _ : Unit => .int .i64 0) (fun _ => [ModR m (learnE t x).2 css])) := by
 have hle := hok.le
 have hcl := hok.cl
 have hqq := hq
 obtain ⟨av, nv, kv, rfl, hq1, hq2⟩ := hqq; obtain ⟨j, hji, hj⟩ := idxN_some (k := 0) hp; rw [Nat.zero_add] at hji; have hjl := (List.getElem?_eq_some_iff.1 hj).1
 refine g_enter (env := [(0, .pointer (some ⟨m, 0, none⟩)), (1, _)]) Tryz.func58 rfl h Tryz.ntmps58 rfl rfl ?_; refine gsr (zbN fun b3 => ?_); refine zxa ?_; refine zxs ?_; refine zxm ?_; refine gp zfa ?_; refine gp zL ?_; refine zc (fun _ => ?_) (c := fun w1 F1 F2 h1 h2 hd hst => rfind_ok (md_rd h2 hd (by repeat (first | exact Pick.here | apply Pick.there))) hok (d := x.block) h1)
 rw [hji]; refine zxa ?_; refine gnt (gc_seq (gsr (zxm ?_))); refine gp (r_bool (c := false) zlt (decide_eq_false (by omega))) ?_; refine gnt (gc_condF rfl rfl ?_); refine gc_skip (gx_then (gc_seq (gc_seq (gc_mod (by repeat (first | exact Pick.here | apply Pick.there)) (fun na nc ca cc qss hmf => ?_)))))
 refine gc_fact (fun w' hw => St.rowAt (hw.sel (M := [rowR 101 55 na t.nodes.length nc (ndC t css).flatten]) (by repeat (first | exact Sel.nil | (apply Sel.cons; · (repeat (first | exact Pick.here | apply Pick.there)))))) .here (by omega)) (fun hran => ?_)
 obtain ⟨hmn, gn, on, han⟩ := hran; subst han; obtain ⟨cp, hcp⟩ : ∃ cp, css[j]? = some cp := ⟨css[j]'(by rw [hmf.ln]; exact hjl), List.getElem?_eq_getElem _⟩; obtain ⟨wq, Aq, hrp⟩ := hmf.n j cp _ hcp hj; have icp := Len.of hrp.len
 have jcp := One.of hrp.one
 refine gc_regionH ([blk b3 47 (.int .i64 x.epoch :: .int .i64 x.round :: (dc x.block ++ [.slice av nv kv])), blk m 99 (dc t.root ++ [.slice (some ⟨gn, on, none⟩) t.nodes.length nc, .slice ca t.certs.length cc]), rowR 101 55 (some ⟨gn, on, none⟩) t.nodes.length nc (ndC t css).flatten]) ?_; refine yp 0 rfl zL ?_; refine yp 1 rfl zmv ?_; refine yp 2 rfl znc ?_; refine yp 3 rfl zfa ?_; refine yp 4 rfl zl ?_; refine yp 5 rfl zmv ?_; refine yp 6 rfl (r_val (v' := .pointer (some ⟨gn, on + j * 55, none⟩)) zia (by rw [Int.toNat_natCast])) ?_; refine yp 7 rfl (r_ldRow (i := j) (g := gn) (o := on) rfl Ty.row_101 Ty.sz_101 (by repeat (first | exact Pick.here | apply Pick.there)) hmf.nd (ndC_at hj hcp) hjl) ?_; refine yo 8 rfl ?_; refine zc (fun _ => ?_) (c := fun w1 F1 F2 h1 h2 hd hst => rfits_ok h1 (hq.mv hst.still) hrp)
 refine yx ?_; refine yp 9 rfl (r_bool (c := false) znt (by rw [hf]; rfl)) ?_; refine yd ?_; refine gx_then (gc_condF rfl rfl ?_); refine gc_skip (gx_then (gc_seq (gc_seq (gc_cz (M := [blk m 99 (dc t.root ++ [.slice (some ⟨gn, on, none⟩) t.nodes.length nc, .slice ca t.certs.length cc]), rowR 101 55 (some ⟨gn, on, none⟩) t.nodes.length nc (ndC t css).flatten, rowR 47 19 ca t.certs.length cc qss.flatten]) (N := [ModR m t css]) (fun _ _ h => mod_shut1 hmf h) ?_)))); by_cases hS : idxQ x.block 0 t.certs = -1 ∧ certF x.block t.certs = none
 ·refine gc_region (zxm ?_); refine gp zfa ?_; refine gp zL ?_; refine zc (fun _ => ?_) (c := fun w1 F1 F2 h1 h2 hd hst => rcert_ok (md_rd h2 hd (by repeat (first | exact Pick.here | apply Pick.there))) hok (d := x.block) h1)
  refine gp (r_bool (c := true) zlt (decide_eq_true (by rw [hS.1]; decide))) ?_; refine gnt (gc_condT rfl rfl ?_); refine gc_mod (by repeat (first | exact Pick.here | apply Pick.there)) (fun na nc ca cc qss hmf => ?_)
  refine gc_regionU 8 ([blk b3 47 (.int .i64 x.epoch :: .int .i64 x.round :: (dc x.block ++ [.slice av nv kv])), blk m 99 (dc t.root ++ [.slice na t.nodes.length nc, .slice ca t.certs.length cc])]) ?_; refine ypu 0 rfl zmv ?_; refine ypu 1 rfl zmv ?_; refine ypu 2 rfl znc ?_; refine ypu 3 rfl zfa ?_; refine ypu 4 rfl zl ?_; refine ypu 5 rfl zL ?_; refine you 6 rfl ?_; refine zeN fun b33 => ?_; refine yxu ?_; refine you 7 rfl ?_; refine zapo (fun a34 c34 => ?_)
  refine yxu ?_; refine yzu ?_; refine gp znc ?_; refine gp zfa ?_; refine zs1 ?_; refine zxs ?_; refine zxa ?_; refine gnt (gc_ret (gx_ret1 rfl (by conv => lhs; whnf) ?_)); intro w' hw; have hlt : (learnE t x).2 = { t with certs := t.certs ++ [x] } := by unfold learnE; rw [hp]; simp [hf, hS.2]
  have h3 := hw.cz (M := [blk m 99 (dc t.root ++ [.slice na t.nodes.length nc, .slice a34 (t.certs.length + 1) c34]), rowR 101 55 na t.nodes.length nc (ndC t css).flatten, rowR 47 19 a34 (t.certs.length + 1) c34 (qss.flatten ++ (.int .i64 x.epoch :: .int .i64 x.round :: (dc x.block ++ [.slice av nv kv])))]) (N := [ModR m { t with certs := t.certs ++ [x] } css]) (fun w'' F'' h'' => mod_shut1 (t := { t with certs := t.certs ++ [x] }) (css := css) (qss := qss ++ [.int .i64 x.epoch :: .int .i64 x.round :: (dc x.block ++ [.slice av nv kv])]) ⟨hmf.ln, hmf.n, by simp [hmf.lq], fun i c y hc hy => (by by_cases hil : i < qss.length; (rw [List.getElem?_append_left hil] at hc; rw [List.getElem?_append_left (by rw [← hmf.lq]; exact hil)] at hy; exact hmf.q i c y hc hy); (rw [List.getElem?_append_right (by omega)] at hc; rw [List.getElem?_append_right (by rw [← hmf.lq]; omega), ← hmf.lq] at hy; cases hik : i - qss.length with | zero => (rw [hik] at hc hy; simp at hc hy; subst hc; subst hy; exact ⟨_, _, hq⟩) | succ _ => (rw [hik] at hc; simp at hc)))⟩ (by simpa [mdL, ndC] using h''))
  rw [hlt]; exact ⟨(), rfl, h3.z⟩
 ·obtain ⟨i, r, hi, hr, hg⟩ := (idxQ_cases x.block t.certs).resolve_left hS; refine gc_region (zxm ?_); refine gp zfa ?_; refine gp zL ?_; refine zc (fun _ => ?_) (c := fun w1 F1 F2 h1 h2 hd hst => rcert_ok (md_rd h2 hd (by repeat (first | exact Pick.here | apply Pick.there))) hok (d := x.block) h1)
  refine gp (r_bool (c := false) zlt (decide_eq_false (by rw [hi]; omega))) ?_; refine gnt (gc_condF rfl rfl ?_); refine gc_skip (gx_then (gsr (zxa ?_))); refine gnt (gc_ret (gx_ret1 rfl (by conv => lhs; whnf) ?_)); intro w' hw; have hlt : (learnE t x).2 = t := by unfold learnE; rw [hp]; simp [hf, hr]
  rw [hlt]; exact ⟨(), rfl, hw.z⟩
theorem radd_ok {w : World} {F : Nat → Prop} {m : Nat} {t : Tr} {css : List (List Value)} (h : stars [ModR m t css] w F) (hok : TOk t) {cs : List Value} {b : Block} (hb : RdBlock w (fun k => ¬ F k) cs b) (ho : OkBlock b) (hsb : smBlk b) (he0 : (wBlock b ⟨0, []⟩).err = 0) (ha : askE t b 0 (idOf b) = 0) :
    Calls Tryz.prog 30 #[.pointer (some ⟨m, 0, none⟩), .agg cs.toArray] w (Post w F (fun _ : Unit => .tuple #[.agg (dc (idOf b)).toArray, .int .i64 0]) (fun _ => [ModR m (addE t b 0 (idOf b)).2.2 (css ++ [cs])])) := by
 have hle := hok.le
 have hcl := hok.cl
 have hbb := hb
 obtain ⟨qj, a1, n1, c1, a2, n2, c2, rfl, hj1, hj2, hj3, hj4, hj5⟩ := hbb; have ij := Len.of hj1.len
 have jj := One.of hj1.one
 obtain ⟨_, hn, p, hp, hf, hep, hrd, hln⟩ := askE_zero ha; obtain ⟨j, hji, hj⟩ := idxN_some (k := 0) hp; rw [Nat.zero_add] at hji; have hjl := (List.getElem?_eq_some_iff.1 hj).1
 have hni := idxN_none (k := 0) hn
 refine g_enter (env := [(0, .pointer (some ⟨m, 0, none⟩)), (1, _)]) Tryz.func30 rfl h Tryz.ntmps30 rfl rfl ?_; refine gsr (zbN fun b3 => ?_); refine zal fun b4 => ?_; refine zxa ?_; refine zxs ?_; refine gp (zba (cs := dc dig0) (hf := by kernel_rfl)) ?_; refine zal fun b6 => ?_; refine zsN ?_; refine zxs ?_; refine gp zL ?_; refine zc (fun _ => ?_) (c := fun w1 F1 F2 h1 h2 hd hst => rid_ok h1 (hb.mv hst.still) ho)
 refine zxm ?_; refine gp zex ?_; refine gp zex ?_; refine zal fun b7 => ?_; refine zsA (dc_length _) (dc_one _) ?_; refine zxa ?_; refine gnt (gc_seq (gsr (zxm ?_))); refine gp (r_bool (c := false) zni (by simp [he0])) ?_; refine gnt (gc_condF rfl rfl ?_); refine gc_skip (gx_then (gc_seq (gsr (zxm ?_)))); refine gp zL ?_; refine zc (fun _ => ?_) (c := fun w1 F1 F2 h1 h2 hd hst => rfind_ok (md_rd h2 hd (by repeat (first | exact Pick.here | apply Pick.there))) hok (d := idOf b) h1)
 rw [hni]; refine gp (r_bool (c := false) zge (by decide)) ?_; refine gnt (gc_condF rfl rfl ?_); refine gc_skip (gx_then (gsr (zxm ?_))); refine gp zfa ?_; refine gp zL ?_; refine zc (fun _ => ?_) (c := fun w1 F1 F2 h1 h2 hd hst => rfind_ok (md_rd h2 hd (by repeat (first | exact Pick.here | apply Pick.there))) hok (d := b.parent) h1)
 rw [hji]; refine zxa ?_; refine gnt (gc_seq (gsr (zxm ?_))); refine gp (r_bool (c := false) zlt (decide_eq_false (by omega))) ?_; refine gnt (gc_condF rfl rfl ?_); refine gc_skip (gx_then (gc_seq (gc_seq (gc_mod (by repeat (first | exact Pick.here | apply Pick.there)) (fun na nc ca cc qss hmf => ?_)))))
 refine gc_fact (fun w' hw => St.rowAt (hw.sel (M := [rowR 101 55 na t.nodes.length nc (ndC t css).flatten]) (by repeat (first | exact Sel.nil | (apply Sel.cons; · (repeat (first | exact Pick.here | apply Pick.there)))))) .here (by omega)) (fun hran => ?_)
 obtain ⟨hmn, gn, on, han⟩ := hran; subst han; obtain ⟨cp, hcp⟩ : ∃ cp, css[j]? = some cp := ⟨css[j]'(by rw [hmf.ln]; exact hjl), List.getElem?_eq_getElem _⟩; obtain ⟨wq, Aq, hrp⟩ := hmf.n j cp _ hcp hj; have icp := Len.of hrp.len
 have jcp := One.of hrp.one
 have hpe := hmf.n j cp _ hcp hj
 have hce : cp[0]? = some (.int .i64 p.epoch) ∧ cp[1]? = some (.int .i64 p.round) := by obtain ⟨_, _, x1, x2, x3, x4, x5, x6, x7, rfl, _⟩ := hpe; exact ⟨rfl, rfl⟩
 have hcell : ∀ {r : Nat} {v : Value}, r < 39 → cp[r]? = some v → (ndC t css).flatten[j * 55 + (16 + r)]? = some v := fun hr hv => flat_cell hmf.nd (ndC_at hj hcp) (by omega) (by rw [List.getElem?_append_right (by rw [dc_length]; omega), dc_length, Nat.add_sub_cancel_left]; exact hv)
 refine gc_regionH ([blk b3 51 (.int .i64 b.epoch :: .int .i64 b.round :: (dc b.parent ++ (qj ++ [.slice a1 n1 c1, .slice a2 n2 c2]))), blk m 99 (dc t.root ++ [.slice (some ⟨gn, on, none⟩) t.nodes.length nc, .slice ca t.certs.length cc]), rowR 101 55 (some ⟨gn, on, none⟩) t.nodes.length nc (ndC t css).flatten]) ?_; refine yp 0 rfl zfa ?_; refine yp 1 rfl (zL (sg := qj)) ?_; refine yp 2 rfl zmv ?_; refine yp 3 rfl znc ?_; refine yp 4 rfl zfa ?_; refine yp 5 rfl zl ?_; refine yp 6 rfl zmv ?_; refine yp 7 rfl (r_val (v' := .pointer (some ⟨gn, on + j * 55, none⟩)) zia (by rw [Int.toNat_natCast])) ?_; refine yp 8 rfl (r_ldRow (i := j) (g := gn) (o := on) rfl Ty.row_101 Ty.sz_101 (by repeat (first | exact Pick.here | apply Pick.there)) hmf.nd (ndC_at hj hcp) hjl) ?_; refine yo 9 rfl ?_; refine zc (fun _ => ?_) (c := fun w1 F1 F2 h1 h2 hd hst => rfits_ok (d := b.parent) h1 (hj1.mv hst.still) hrp)
 refine yx ?_; refine yp 10 rfl (r_bool (c := false) znt (by rw [hf]; rfl)) ?_; refine yp 11 rfl zmv ?_; refine yp 12 rfl zfa ?_; refine yp 13 rfl zl ?_; refine yp 14 rfl zmv ?_; refine yp 15 rfl znc ?_; refine yp 16 rfl zfa ?_; refine yp 17 rfl zl ?_; refine yp 18 rfl zmv ?_; refine yp 19 rfl (r_val (v' := .pointer (some ⟨gn, on + j * 55, none⟩)) zia (by rw [Int.toNat_natCast])) ?_; refine yp 20 rfl (r_val (v' := .pointer (some ⟨gn, on + (j * 55 + (16 + 0)), none⟩)) zfa (by rw [Nat.add_assoc])) ?_; refine yp 21 rfl zfa ?_; refine yp 22 rfl (zr (i := j * 55 + (16 + 0)) (hv := hcell (by decide) hce.1)) ?_; refine yp 23 rfl (r_bool (c := false) zni (by simp [hep])) ?_; refine yp 24 rfl zpk ?_; refine yd ?_; refine gx_then (gc_condF rfl rfl ?_); refine gc_skip (gx_then (gc_seq (gc_seq (gc_regionS (by kernel_rfl) (by kernel_rfl) ?_)))); refine sp zfa ?_; refine sp zl ?_; refine sp zmv ?_; refine sp znc ?_; refine sp zfa ?_; refine sp zl ?_; refine sp zmv ?_; refine sp (r_val (v' := .pointer (some ⟨gn, on + j * 55, none⟩)) zia (by rw [Int.toNat_natCast])) ?_; refine sp (r_val (v' := .pointer (some ⟨gn, on + (j * 55 + 16), none⟩)) zfa (by rw [Nat.add_assoc])) ?_; refine sp (r_val (v' := .pointer (some ⟨gn, on + (j * 55 + (16 + 1)), none⟩)) zfa rfl) ?_; refine sp (zr (i := j * 55 + (16 + 1)) (hv := hcell (by decide) hce.2)) ?_; refine sp (r_bool (c := false) zle (decide_eq_false (by omega))) ?_; refine gs_nil ?_; refine gx_then (gc_condF rfl rfl ?_); refine gc_skip (gx_then (gc_seq (gsr (zxm ?_)))); refine gp znc ?_; refine gp zfa ?_; refine gp zl ?_; refine gp zln ?_; refine gp (r_bool (c := false) zge (decide_eq_false (by omega))) ?_; refine gnt (gc_condF rfl rfl ?_); refine gc_skip (gx_then (gc_seq (gc_regionU 10 ([blk b3 51 (.int .i64 b.epoch :: .int .i64 b.round :: (dc b.parent ++ (qj ++ [.slice a1 n1 c1, .slice a2 n2 c2]))), blk b7 27 (dc (idOf b)), blk m 99 (dc t.root ++ [.slice (some ⟨gn, on, none⟩) t.nodes.length nc, .slice ca t.certs.length cc])]) ?_)))
 refine ypu 0 rfl zmv ?_; refine ypu 1 rfl zmv ?_; refine ypu 2 rfl znc ?_; refine ypu 3 rfl zfa ?_; refine ypu 4 rfl zl ?_; refine ypu 5 rfl zL ?_; refine ypu 6 rfl zL ?_; refine ypu 7 rfl (zbu (cs := dc (idOf b) ++ (.int .i64 b.epoch :: .int .i64 b.round :: (dc b.parent ++ (qj ++ [.slice a1 n1 c1, .slice a2 n2 c2]))))) ?_; refine you 8 rfl ?_; refine zeN fun b85 => ?_; refine yxu ?_; refine you 9 rfl ?_; refine zapo (fun a86 c86 => ?_)
 refine yxu ?_; refine yzu ?_; refine gp znc ?_; refine gp zfa ?_; refine zs1 ?_; refine gnt (gc_seq (gc_cz (M := [blk m 99 (dc t.root ++ [.slice a86 (t.nodes.length + 1) c86, .slice ca t.certs.length cc]), rowR 101 55 a86 (t.nodes.length + 1) c86 ((ndC t css).flatten ++ (dc (idOf b) ++ (.int .i64 b.epoch :: .int .i64 b.round :: (dc b.parent ++ (qj ++ [.slice a1 n1 c1, .slice a2 n2 c2]))))), rowR 47 19 ca t.certs.length cc qss.flatten]) (N := [ModR m (putT t b (idOf b)) (css ++ [(.int .i64 b.epoch :: .int .i64 b.round :: (dc b.parent ++ (qj ++ [.slice a1 n1 c1, .slice a2 n2 c2])))])]) (fun w'' F'' h'' => mod_shut1 (t := putT t b (idOf b)) (css := css ++ [(.int .i64 b.epoch :: .int .i64 b.round :: (dc b.parent ++ (qj ++ [.slice a1 n1 c1, .slice a2 n2 c2])))]) (qss := qss) ⟨by simp [putT, hmf.ln], fun i c y hc hy => (by by_cases hil : i < css.length; (rw [List.getElem?_append_left hil] at hc; simp only [putT] at hy; rw [List.getElem?_append_left (by rw [← hmf.ln]; exact hil)] at hy; exact hmf.n i c y hc hy); (rw [List.getElem?_append_right (by omega)] at hc; simp only [putT] at hy; rw [List.getElem?_append_right (by rw [← hmf.ln]; omega), ← hmf.ln] at hy; cases hik : i - css.length with | zero => (rw [hik] at hc hy; simp at hc hy; subst hc; subst hy; exact ⟨_, _, hb⟩) | succ _ => (rw [hik] at hc; simp at hc))), hmf.lq, hmf.q⟩ (by have e : ndC (putT t b (idOf b)) (css ++ [(.int .i64 b.epoch :: .int .i64 b.round :: (dc b.parent ++ (qj ++ [.slice a1 n1 c1, .slice a2 n2 c2])))]) = ndC t css ++ [dc (idOf b) ++ (.int .i64 b.epoch :: .int .i64 b.round :: (dc b.parent ++ (qj ++ [.slice a1 n1 c1, .slice a2 n2 c2])))] := (by simp [ndC, putT, List.zip_append hmf.ln.symm]); show stars (mdL _ _ _ a86 c86 ca cc qss []) _ _; unfold mdL; rw [e, List.flatten_append, show ([dc (idOf b) ++ (.int .i64 b.epoch :: .int .i64 b.round :: (dc b.parent ++ (qj ++ [.slice a1 n1 c1, .slice a2 n2 c2])))]).flatten = dc (idOf b) ++ (.int .i64 b.epoch :: .int .i64 b.round :: (dc b.parent ++ (qj ++ [.slice a1 n1 c1, .slice a2 n2 c2]))) by simp, show (putT t b (idOf b)).nodes.length = t.nodes.length + 1 by simp [putT]]; exact h'')) ?_))
 have hokP : TOk (putT t b (idOf b)) := putT_ok (p := b.parent) hok hn hp hln hsb
 have hpP : lkN b.justify.block (putT t b (idOf b)).nodes = some p := by have hbj : b.justify.block = b.parent := (of_decide_eq_true hf).1; rw [hbj]; show lkN _ (t.nodes ++ _) = _; rw [lkN_append, hp]; rfl
 have hfP : fitsQ b.justify b.justify.block p = true := by have hbj : b.justify.block = b.parent := (of_decide_eq_true hf).1; rw [hbj]; exact hf
 refine gc_region (zxm ?_); refine gp zfa ?_; refine gp (zL (sg := qj)) ?_; refine zc (fun _ => ?_) (c := fun w1 F1 F2 h1 h2 hd hst => rlearn_ok h1 hokP (hj1.mv hst.still) hpP hfP)
 refine zxs ?_; refine gp zL ?_; refine zsN ?_; refine zxa ?_; refine gnt (gc_ret (gx_retct rfl rfl (by conv => lhs; whnf) (ldA Ty.row_27 Ty.sz_27) ?_)); intro w' hw; have hA : (addE t b 0 (idOf b)).2.2 = (learnE (putT t b (idOf b)) b.justify).2 := by unfold addE; rw [if_pos ha]
 rw [hA]; exact ⟨(), rfl, hw.z⟩
end
section
attribute [local irreducible] idOf gid
section
variable (b0 : Block) (ps ss : List Int)
def trL (i : Nat) : List Block := (List.range i).map (trN b0 ps ss)
variable {b0 ps ss}
theorem trL_succ (i : Nat) : trL b0 ps ss (i + 1) = trL b0 ps ss i ++ [trN b0 ps ss i] := by simp [trL, List.range_succ]
theorem trT_succ (i : Nat) : (addE (trT b0 ps ss i) (trN b0 ps ss i) 0 (idOf (trN b0 ps ss i))).2.2 = trT b0 ps ss (i + 1) := rfl
theorem trL_zero : trL b0 ps ss 0 = [] := rfl
theorem trL_len (i : Nat) : (trL b0 ps ss i).length = i := by simp [trL]
theorem trB_cons : ∀ i, trB b0 ps ss i = b0 :: trL b0 ps ss i
  | 0 => rfl
  | i + 1 => by rw [trB_succ, trB_cons i, trL_succ]; rfl
theorem trN_okb {i : Nat} (h : TrI b0 ps ss i) (h0 : 0 ≤ b0.round) (h1 : b0.round ≤ 500) (hi : i < 100) : OkBlock (trN b0 ps ss i) := by
  obtain ⟨p, _, e, hep, hr0, _, hr1, hs⟩ := h.x h0 h1 hi
  rw [e]
  refine ⟨?_, ?_, ⟨?_, ?_, fun v hv => by cases hv⟩, fun v hv => by cases hv⟩
  all_goals (simp only [I64, chB, hep]; omega)
theorem ask_of {t : Tr} {b : Block} {e : Nat} {id d : Dig} {t' : Tr} (h : addE t b e id = (0, d, t')) : askE t b e id = 0 := by
  unfold addE at h
  split at h
  · assumption
  · exact congrArg Prod.fst h
theorem tree_cell {c0 : List Value} {css2 : List (List Value)} {i j : Nat} {p : Block} (h0 : ∃ w A, RdBlock w A c0 b0) (hl : css2.length = (trL b0 ps ss i).length) (he : ∀ (j : Nat) c x, css2[j]? = some c → (trL b0 ps ss i)[j]? = some x → ∃ w A, RdBlock w A c x) (hp : (trB b0 ps ss i)[j]? = some p) : ∃ cp, (c0 :: css2)[j]? = some cp ∧ ∃ w A, RdBlock w A cp p := by
  rw [trB_cons] at hp
  match j with
  | 0 => simp at hp; subst hp; exact ⟨c0, rfl, h0⟩
  | j + 1 =>
    simp only [List.getElem?_cons_succ] at hp ⊢
    have hlt := (List.getElem?_eq_some_iff.1 hp).1
    have hc : css2[j]? = some (css2[j]'(by omega)) := List.getElem?_eq_getElem (by omega)
    exact ⟨_, hc, he j _ _ hc hp⟩
end
def chN (b : Block) (id : Dig) (on : Int) (b24 : Nat) (nx : Value) : List Value := .int .i64 b.epoch :: .int .i64 (b.round + on) :: (dc id ++ (.int .i64 b.epoch :: .int .i64 b.round :: (dc id ++ [.slice none 0 0, .slice (some ⟨b24, 0, none⟩) 1 1, nx])))
theorem chN_none (b : Block) (id : Dig) (on : Int) (b24 : Nat) : chC b id on b24 = chN b id on b24 (.slice none 0 0) := rfl
theorem chN_len (b : Block) (id : Dig) (on : Int) (b24 : Nat) (nx : Value) : (chN b id on b24 nx).length = 39 := by simp [chN, dc_length]
theorem chN_one {nx : Value} (h : nx.oneCell' = true) (b : Block) (id : Dig) (on : Int) (b24 : Nat) : ∀ v ∈ chN b id on b24 nx, v.oneCell' = true :=
  all_cons' rfl (all_cons' rfl (all_app' (dc_one _) (all_cons' rfl (all_cons' rfl (all_app' (dc_one _) (all_cons' rfl (all_cons' rfl (all_cons' h all_nil'))))))))
theorem chC_up (b : Block) (id : Dig) (on : Int) (b24 : Nat) (nx : Value) : updL (chC b id on b24) 38 [nx] = chN b id on b24 nx := by
  have e : chC b id on b24 = (.int .i64 b.epoch :: .int .i64 (b.round + on) :: (dc id ++ (.int .i64 b.epoch :: .int .i64 b.round :: (dc id ++ [.slice none 0 0, .slice (some ⟨b24, 0, none⟩) 1 1])))) ++ ([.slice none 0 0] ++ []) := by simp [chC]
  have hh : (Value.int .i64 b.epoch :: .int .i64 (b.round + on) :: (dc id ++ (Value.int .i64 b.epoch :: .int .i64 b.round :: (dc id ++ [Value.slice none 0 0, .slice (some ⟨b24, 0, none⟩) 1 1])))).length = 38 := by simp [dc_length]
  have h := updL_row (hd := Value.int .i64 b.epoch :: .int .i64 (b.round + on) :: (dc id ++ (Value.int .i64 b.epoch :: .int .i64 b.round :: (dc id ++ [Value.slice none 0 0, .slice (some ⟨b24, 0, none⟩) 1 1])))) (xs := [.slice none 0 0]) (tl := []) (new := [nx]) (i := 0) hh (by simp)
  rw [e]
  rw [Nat.add_zero] at h
  rw [h, show updL [Value.slice none 0 0] 0 [nx] = [nx] from rfl]
  simp [chN]
theorem vl_leF {es : List Bool} {k b23 b24 e1 e2 : Nat} (he : es.getD k false = false) {w : World} {F : Nat → Prop} (h : stars [rowR e1 1 (some ⟨b24, 0, none⟩) 1 1 [.slice (some ⟨b23, 0, none⟩) 1 1], rowR e2 1 (some ⟨b23, 0, none⟩) 1 1 [B8 (txN k)]] w F) : stars [VlR RdBlock (chN (leB es k) (leI es k) 1 b24 (.slice none 0 0)) (leB es (k + 1))] w F := by
  have h1 := vl_chC (b := leB es k) (id := leI es k) (on := 1) h
  rwa [show leB es (k + 1) = chB (leB es k) (leI es k) 1 (txN k) by rw [leB_succ, he]; rfl, ← chN_none]
theorem vl_leT {es : List Bool} {k b23 b24 b82 e1 e2 e3 : Nat} (he : es.getD k false = true) {w : World} {F : Nat → Prop} (h : stars [rowR e1 1 (some ⟨b24, 0, none⟩) 1 1 [.slice (some ⟨b23, 0, none⟩) 1 1], rowR e2 1 (some ⟨b23, 0, none⟩) 1 1 [B8 (txN k)], rowR e3 17 (some ⟨b82, 0, none⟩) 1 1 (dc dig0 ++ [.int .i64 1])] w F) : stars [VlR RdBlock (chN (leB es k) (leI es k) 1 b24 (.slice (some ⟨b82, 0, none⟩) 1 1)) (leB es (k + 1))] w F := by
  have h0 := h
  obtain ⟨F1, R1, h1, k1, e1', _⟩ := h
  obtain ⟨F2, R2, h2, k2, e2', _⟩ := k1
  obtain ⟨F3, R3, h3, _, e3', _⟩ := k2
  have s1 : ∀ k, F1 k → F k := fun k hk => (e1' k).2 (.inl hk)
  have s2 : ∀ k, F2 k → F k := fun k hk => (e1' k).2 (.inr ((e2' k).2 (.inl hk)))
  have s3 : ∀ k, F3 k → F k := fun k hk => (e1' k).2 (.inr ((e2' k).2 (.inr ((e3' k).2 (.inl hk)))))
  have g1 := (rowR.rd h1).mv (still_sub (w := w) s1)
  have g2 := (rowR.rd h2).mv (still_sub (w := w) s2)
  have g3 := (rowR.rd h3).mv (still_sub (w := w) s3)
  refine rdR_mk ?_ h0
  have hb : leB es (k + 1) = { chB (leB es k) (leI es k) 1 (txN k) with next := [⟨dig0, 1⟩] } := by rw [leB_succ, he]; rfl
  rw [hb]
  refine ⟨_, some ⟨b24, 0, none⟩, 1, 1, some ⟨b82, 0, none⟩, 1, 1, by simp [chN, chB], rdQ1 (leB es k).epoch (leB es k).round (leI es k), Nat.le_refl _, ⟨[[.slice (some ⟨b23, 0, none⟩) 1 1]], g1, by simp, rfl, fun i x y hx hy => ?_⟩, Nat.le_refl _, ⟨[dc dig0 ++ [.int .i64 1]], by simpa using g3, by simp [dc_length], rfl, fun i x y hx hy => ?_⟩⟩
  · match i with
    | 0 => simp at hx; subst hx; simp [chB] at hy; subst hy; exact ⟨_, _, _, rfl, Nat.le_refl _, g2⟩
    | i + 1 => simp at hx
  · match i with
    | 0 => simp at hx; subst hx; simp at hy; subst hy; rfl
    | i + 1 => simp at hx
theorem leQ_fits' {es : List Bool} (k : Nat) : fitsQ (leQ es k) (idOf (leB es k)) (leB es k) = true := leQ_fits k
theorem le_trT (es : List Bool) (ps ss : List Int) : newT (leB es es.length) (leQ es es.length) (idOf (leB es es.length)) = trT (leB es es.length) ps ss 0 := rfl
theorem leRs_zero {es : List Bool} : leRs es 0 = [] := rfl
theorem leL_zero {es : List Bool} : leL es 0 = [] := rfl
theorem i64_s {n : Int} (h : 0 ≤ n ∧ n ≤ 1000000) : I64 n := ⟨by omega, by omega⟩
theorem leB_okb {es : List Bool} {k : Nat} (hk : k < 900) : OkBlock (leB es k) := by
  have h1 := leB_round (es := es) k
  have h2 := leB_epoch (es := es) k
  cases k with
  | zero => exact ⟨i64_s (by omega), i64_s (by omega), ⟨i64_s (n := 0) (by decide), i64_s (n := 0) (by decide), fun v hv => by cases hv⟩, fun v hv => by cases hv⟩
  | succ k =>
    rw [leX_eq]
    refine ⟨i64_s (n := 1) (by decide), i64_s (n := ((k + 1 : Nat) : Int)) (by omega), ⟨i64_s (n := 1) (by decide), i64_s (n := (k : Int)) (by omega), fun v hv => by cases hv⟩, fun v hv => ?_⟩
    simp only at hv
    split at hv
    · simp at hv; subst hv; exact i64_s (n := 1) (by decide)
    · cases hv
theorem last_rd {es : List Bool} {L L' : List Res} {w : World} {F1 F2 : Nat → Prop} {css : List (List Value)} {cs : List Value} {k : Nat} (h2 : stars L w F2) (hd : ∀ k, F1 k → ¬ F2 k) (hp : Pick L (ElR RdBlock css (leL es k)) L') (hl : (k = 0 ∧ cs = genC) ∨ ∃ i, k = i + 1 ∧ css[i]? = some cs) : RdBlock w (fun k => ¬ F1 k) cs (leB es k) := by
  rcases hl with ⟨rfl, rfl⟩ | ⟨i, rfl, hc⟩
  · exact rdGen
  · exact el_rd (rd := RdBlock) h2 hd hp hc (leL_at (by omega))
structure ShOk (es : List Bool) (ps ss : List Int) : Prop where
  a : es.length ≤ 10
  b : ps.length ≤ 12
  c : ps.length ≤ ss.length
  d : trOk (leB es es.length) ps ss ps.length
structure Bx where
  q : Nat
  g : Nat
  t : Nat
  m : Nat
  la : Option Addr
  lc : Nat
  ia : Option Addr
  ic : Nat
  css : List (List Value)
  css2 : List (List Value)
  c0 : List Value
def bxC (x : Bx) (n k : Nat) : List Value := .pointer (some ⟨x.q, 0, none⟩) :: .slice x.la n x.lc :: .pointer (some ⟨x.t, 0, none⟩) :: .pointer (some ⟨x.m, 0, none⟩) :: .slice x.ia (n + 1 + k) x.ic :: dc gid
theorem bxC_len (x : Bx) (n k : Nat) : (bxC x n k).length = 21 := by simp [bxC, dc_length]
theorem bxC_one (x : Bx) (n k : Nat) : ∀ v ∈ bxC x n k, v.oneCell' = true := all_cons' rfl (all_cons' rfl (all_cons' rfl (all_cons' rfl (all_cons' rfl (dc_one _)))))
def idsB (es : List Bool) (ps ss : List Int) (i : Nat) : List Dig := leD es es.length ++ (trL (leB es es.length) ps ss i).map idOf
theorem idsB_zero (es : List Bool) (ps ss : List Int) : idsB es ps ss 0 = leD es es.length := by simp [idsB, trL]
theorem idsB_succ (es : List Bool) (ps ss : List Int) (i : Nat) : idsB es ps ss (i + 1) = idsB es ps ss i ++ [idOf (trN (leB es es.length) ps ss i)] := by simp [idsB, trL_succ]
theorem idsB_len (es : List Bool) (ps ss : List Int) (i : Nat) : (idsB es ps ss i).length = es.length + 1 + i := by simp [idsB, leD_len, trL_len]
def BuiltR (es : List Bool) (ps ss : List Int) (r : Bool × List Value × Bx) : List Res := if r.1 then
  [pureR (ShOk es ps ss ∧ r.2.1 = bxC r.2.2 es.length ps.length ∧ (∀ c ∈ r.2.2.css, List.length c = 39) ∧ (∀ c ∈ r.2.2.css2, List.length c = 39) ∧ ∃ w A, RdBlock w A r.2.2.c0 (leB es es.length)),
   LdR r.2.2.q r.2.2.g 200 0 (leRs es es.length), rowR 51 39 r.2.2.la es.length r.2.2.lc r.2.2.css.flatten, ElR RdBlock r.2.2.css (leL es es.length), TreeR r.2.2.t (trT (leB es es.length) ps ss ps.length), ModR r.2.2.m (trT (leB es es.length) ps ss ps.length) (r.2.2.c0 :: r.2.2.css2),
   ElR RdBlock r.2.2.css2 (trL (leB es es.length) ps ss ps.length), rowR 27 16 r.2.2.ia (es.length + 1 + ps.length) r.2.2.ic ((idsB es ps ss ps.length).map dc).flatten]
  else [pureR (¬ ShOk es ps ss ∧ r.2.1.length = 21 ∧ ∀ v ∈ r.2.1, v.oneCell' = true)]
section
variable {w : World} {F : Nat → Prop} {ea : Nat → Addr} {es : List Nat} {cs qs : List Value} {b : Block} {q : QC}
theorem tnewB_ok [Has es 1] [Has es 4] [Has es 12] (hE : GErr es w (fun k => ¬ F k) 251 ea) (hK : KR w (fun k => ¬ F k)) (h : stars [] w F) (hb : RdBlock w (fun k => ¬ F k) cs b) (hq : RdQC w (fun k => ¬ F k) qs q) (hsb : smBlk b) (hsq : smQC q) (he0 : (wBlock b ⟨0, []⟩).err = 0) (hf : fitsQ q (idOf b) b = true) :
    Calls Tryz.prog 27 #[.agg cs.toArray, .agg qs.toArray] w (Post w F (fun x : Nat => .tuple #[.pointer (some ⟨x, 0, none⟩), eV 251 ea 0]) (fun x => [TreeR x (newT b q (idOf b))])) := by
  have h1 := tnew_ok (b := b) (q := q) hE hK h hb hq (fun _ => hsb) hsq
  have h0 : newE b q (wBlock b ⟨0, []⟩).err (idOf b) = 0 := by unfold newE; rw [if_pos he0, if_pos hf]
  rw [h0] at h1
  exact h1
end
end
end Go.Proofs.YtheonhgffglegaaGreatDoor
