/- Plain words: SHA-256 as layer 2 computes it. No program in sight. -/
import Derived.KernelRfl
namespace Go.Proofs.YtffkjjakceojfaaDoor
set_option linter.unusedVariables false

def rotr (x : UInt32) (n : Nat) : UInt32 := x <<< UInt32.ofNat (32 - n) ||| x >>> UInt32.ofNat n
def wordAt (b : List UInt8) (k : Nat) : UInt32 := ((b.getD (4 * k) 0).toUInt32 <<< UInt32.ofNat 24 ||| (b.getD (4 * k + 1) 0).toUInt32 <<< UInt32.ofNat 16) ||| (b.getD (4 * k + 2) 0).toUInt32 <<< UInt32.ofNat 8 ||| (b.getD (4 * k + 3) 0).toUInt32
def sg0 (x : UInt32) : UInt32 := rotr x 7 ^^^ rotr x 18 ^^^ x >>> UInt32.ofNat 3
def sg1 (x : UInt32) : UInt32 := rotr x 17 ^^^ rotr x 19 ^^^ x >>> UInt32.ofNat 10
/-- The schedule of a block of 64 bytes. -/
def sch (b : List UInt8) (j : Nat) : UInt32 :=
  if h : j < 16 then wordAt b j else sch b (j - 16) + sg0 (sch b (j - 15)) + sch b (j - 7) + sg1 (sch b (j - 2))
termination_by j
structure V8 where
  a : UInt32
  b : UInt32
  c : UInt32
  d : UInt32
  e : UInt32
  f : UInt32
  g : UInt32
  h : UInt32
def rnd (k w : UInt32) (v : V8) : V8 :=
  let one := v.h + (rotr v.e 6 ^^^ rotr v.e 11 ^^^ rotr v.e 25) + ((v.e &&& v.f) ^^^ (~~~v.e &&& v.g)) + k + w
  let two := (rotr v.a 2 ^^^ rotr v.a 13 ^^^ rotr v.a 22) + (((v.a &&& v.b) ^^^ (v.a &&& v.c)) ^^^ (v.b &&& v.c))
  ⟨one + two, v.a, v.b, v.c, v.d + one, v.e, v.f, v.g⟩
def rnds (K W : Nat → UInt32) (v : V8) : Nat → V8
  | 0 => v
  | k + 1 => rnd (K k) (W k) (rnds K W v k)
def V8.add (x y : V8) : V8 := ⟨x.a + y.a, x.b + y.b, x.c + y.c, x.d + y.d, x.e + y.e, x.f + y.f, x.g + y.g, x.h + y.h⟩
def V8.get (x : V8) : Nat → UInt32
  | 0 => x.a | 1 => x.b | 2 => x.c | 3 => x.d | 4 => x.e | 5 => x.f | 6 => x.g | _ => x.h
def take64 (K : Nat → UInt32) (v : V8) (b : List UInt8) : V8 := v.add (rnds K (sch b) v 64)
/-- All whole blocks of b. -/
def takes (K : Nat → UInt32) (v : V8) (b : List UInt8) : V8 × List UInt8 :=
  if h : 64 ≤ b.length then takes K (take64 K v (b.take 64)) (b.drop 64) else (v, b)
termination_by b.length
decreasing_by simp; omega
def v0 : V8 := ⟨1779033703, 3144134277, 1013904242, 2773480762, 1359893119, 2600822924, 528734635, 1541459225⟩
/-- A hash: its words, the bytes that aren't taken yet, how many bytes it was handed. -/
structure HS where
  v : V8
  rest : List UInt8
  len : Nat
def hs0 : HS := ⟨v0, [], 0⟩
def hWrite (K : Nat → UInt32) (s : HS) (b : List UInt8) : HS :=
  let p := takes K s.v (s.rest ++ b)
  ⟨p.1, p.2, s.len + b.length⟩
theorem takes_rest (K : Nat → UInt32) (v : V8) (b : List UInt8) : (takes K v b).2.length < 64 := by
  fun_induction takes K v b with
  | case1 v b h ih => exact ih
  | case2 v b h => simpa using h
theorem takes_le (K : Nat → UInt32) (v : V8) (b : List UInt8) : (takes K v b).2.length ≤ b.length := by
  fun_induction takes K v b with
  | case1 v b h ih => simp at ih; omega
  | case2 v b h => exact Nat.le_refl _
def lenBytes (len : Nat) : List UInt8 := (List.range 8).map fun i => UInt8.ofNat (len * 8 / 2 ^ (8 * (7 - i)))
def padN (m : Nat) : Nat := (55 + 64 - m % 64) % 64
def padded (s : HS) : List UInt8 := s.rest ++ 128 :: (List.replicate (padN s.rest.length) 0 ++ lenBytes s.len)
def outByte (v : V8) (i : Nat) : UInt8 := (v.get (i / 4) >>> UInt32.ofNat (24 - 8 * (i % 4))).toUInt8
def hSum (K : Nat → UInt32) (s : HS) : List UInt8 := (List.range 32).map (outByte (takes K s.v (padded s)).1)
def part4 (n : Nat) : List UInt8 := [UInt8.ofNat (n / 2 ^ 24), UInt8.ofNat (n / 2 ^ 16), UInt8.ofNat (n / 2 ^ 8), UInt8.ofNat n]
def hOf (K : Nat → UInt32) (dom : Int) (parts : List (List UInt8)) : List UInt8 :=
  (hSum K (parts.foldl (fun s p => hWrite K (hWrite K s (part4 p.length)) p) (hWrite K hs0 [UInt8.ofNat (dom % 256).toNat]))).take 16
theorem hOf_length (K : Nat → UInt32) (dom : Int) (parts : List (List UInt8)) : (hOf K dom parts).length = 16 := by simp [hOf, hSum]
end Go.Proofs.YtffkjjakceojfaaDoor
