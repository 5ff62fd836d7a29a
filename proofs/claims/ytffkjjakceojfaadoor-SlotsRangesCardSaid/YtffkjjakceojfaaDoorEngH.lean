/- The engine, part H: words of 32 bits, elements of array values, loads out of rows that are owned. -/
import Derived.Test.YtffkjjakceojfaaDoorEngG
namespace Go.Proofs.YtffkjjakceojfaaDoor
open Go
set_option linter.unusedVariables false
set_option linter.unusedSimpArgs false

def W32 (x : UInt32) : Value := .int .u32 (x.toNat : Int)
theorem u32_wrap (i : Int) : IntKind.u32.wrap i = i % 4294967296 := by simp [IntKind.wrap, IntKind.bits, IntKind.signed]
theorem u32_id (x : UInt32) : IntKind.u32.wrap (x.toNat : Int) = (x.toNat : Int) := by
  have := x.toNat_lt; rw [u32_wrap]; omega
theorem w_add (a b : UInt32) : IntKind.u32.wrap ((a.toNat : Int) + b.toNat) = ((a + b).toNat : Int) := by
  rw [u32_wrap, UInt32.toNat_add]; omega
theorem w_mul (a b : UInt32) : IntKind.u32.wrap ((a.toNat : Int) * b.toNat) = ((a * b).toNat : Int) := by
  rw [u32_wrap, UInt32.toNat_mul]; simp
theorem w_bv (a : UInt32) : BitVec.ofInt IntKind.u32.bits (a.toNat : Int) = a.toBitVec := by
  show BitVec.ofInt 32 ((a.toNat : Nat) : Int) = a.toBitVec
  rw [BitVec.ofInt_natCast]; exact BitVec.eq_of_toNat_eq (by have := a.toNat_lt; rw [BitVec.toNat_ofNat]; exact Nat.mod_eq_of_lt this)
theorem w_back (x : BitVec 32) : IntKind.u32.wrap (x.toNat : Int) = (x.toNat : Int) := by
  have := x.isLt; rw [u32_wrap]; omega
theorem w_and (a b : UInt32) : bitop .and .u32 (a.toNat : Int) (b.toNat : Int) = ((a &&& b).toNat : Int) := by
  simp only [bitop, w_bv]; exact w_back (a.toBitVec &&& b.toBitVec)
theorem w_or (a b : UInt32) : bitop .or .u32 (a.toNat : Int) (b.toNat : Int) = ((a ||| b).toNat : Int) := by
  simp only [bitop, w_bv]; exact w_back (a.toBitVec ||| b.toBitVec)
theorem w_xor (a b : UInt32) : bitop .xor .u32 (a.toNat : Int) (b.toNat : Int) = ((a ^^^ b).toNat : Int) := by
  simp only [bitop, w_bv]; exact w_back (a.toBitVec ^^^ b.toBitVec)
theorem w_not (a : UInt32) : bitop .xor .u32 4294967295 (a.toNat : Int) = ((~~~a).toNat : Int) := by
  have e : BitVec.ofInt IntKind.u32.bits 4294967295 = BitVec.allOnes 32 := rfl
  simp only [bitop, w_bv, e]
  have h : BitVec.allOnes 32 ^^^ a.toBitVec = ~~~a.toBitVec := by rw [BitVec.allOnes_xor]
  exact (congrArg (fun x : BitVec 32 => IntKind.u32.wrap (x.toNat : Int)) h).trans (w_back (~~~a.toBitVec))
theorem ofNat_small {j : Nat} (h : j < 32) : (UInt32.ofNat j).toNat = j := by
  rw [UInt32.toNat_ofNat']; omega
theorem w_shl (a : UInt32) {j : Nat} (h : j < 32) : IntKind.u32.wrap ((a.toNat : Int) * 2 ^ (min (j : Int).toNat IntKind.u32.bits)) = ((a <<< UInt32.ofNat j).toNat : Int) := by
  have e : min (j : Int).toNat IntKind.u32.bits = j := by simp only [IntKind.bits]; omega
  rw [e, u32_wrap, UInt32.toNat_shiftLeft, ofNat_small h, Nat.mod_eq_of_lt h, Nat.shiftLeft_eq, Int.natCast_emod, Int.natCast_mul, Int.natCast_pow]
  rfl
theorem w_shr (a : UInt32) {j : Nat} (h : j < 32) : (a.toNat : Int).fdiv (2 ^ (min (j : Int).toNat IntKind.u32.bits)) = ((a >>> UInt32.ofNat j).toNat : Int) := by
  have e : min (j : Int).toNat IntKind.u32.bits = j := by simp only [IntKind.bits]; omega
  rw [e, UInt32.toNat_shiftRight, ofNat_small h, Nat.mod_eq_of_lt h, Nat.shiftRight_eq_div_pow, Int.fdiv_eq_ediv_of_nonneg _ (by exact Int.le_of_lt (Int.pow_pos (by omega))), Int.natCast_ediv, Int.natCast_pow]
  rfl

theorem run_part1 {P : Program} {T off : Nat} {cs : List Value} {v : Value} (hr : rowT P T = some false) (hv : cs[off]? = some v) (w : World) : (part T cs.toArray off).run P w = .ok v w := by
  simp [part, run_rowT hr, hv]
theorem run_partN {P : Program} {T off s : Nat} {cs seg : List Value} (hr : rowT P T = some true) (hs : szT P T = some s) (hv : (cs.drop off).take s = seg) (w : World) : (part T cs.toArray off).run P w = .ok (.agg seg.toArray) w := by
  subst hv
  simp [part, run_rowT hr, run_sz hs, List.extract_eq_take_drop]
section
variable {P : Program} {w0 : World} {F0 : Nat → Prop} {L : List Res} {Q : Exit → Act → World → Prop} {n : Nat} {env : Env} {ops : Array Oper} {rest : List Oper}
variable {d : Option Tmp} {ty : TypeId} {pos : String} {af : Array Edge} {gd : Option (Nat × Bool)}
theorem r_xorU {x : Operand} {T : TypeId} {k : IntKind} {i : Int} (hk : k.signed = false) (hx : ev n env x = .int k i) : Runs P w0 F0 L n env ⟨d, .unOp .xor T x, ty, pos, af, gd⟩ (.int k (bitop .xor k k.max i)) := fun w _ => by
  have e : (Op.unary .xor (.int k i)) = Op.intBits .xor k k.max i := by simp [Op.unary, hk]
  simp only [execOp, hx, e]; rfl
theorem r_addw {T T' : TypeId} {x y : Operand} {a b : UInt32} (hx : ev n env x = W32 a) (hy : ev n env y = W32 b) : Runs P w0 F0 L n env ⟨d, .binOp .add T x y T', ty, pos, af, gd⟩ (W32 (a + b)) := r_int (r_add hx hy) (w_add a b)
theorem r_mulw {T T' : TypeId} {x y : Operand} {a b : UInt32} (hx : ev n env x = W32 a) (hy : ev n env y = W32 b) : Runs P w0 F0 L n env ⟨d, .binOp .mul T x y T', ty, pos, af, gd⟩ (W32 (a * b)) := r_int (r_mul hx hy) (w_mul a b)
theorem r_andw {T T' : TypeId} {x y : Operand} {a b : UInt32} (hx : ev n env x = W32 a) (hy : ev n env y = W32 b) : Runs P w0 F0 L n env ⟨d, .binOp .and T x y T', ty, pos, af, gd⟩ (W32 (a &&& b)) := r_int (r_bits (op := .and) rfl hx hy) (w_and a b)
theorem r_orw {T T' : TypeId} {x y : Operand} {a b : UInt32} (hx : ev n env x = W32 a) (hy : ev n env y = W32 b) : Runs P w0 F0 L n env ⟨d, .binOp .or T x y T', ty, pos, af, gd⟩ (W32 (a ||| b)) := r_int (r_bits (op := .or) rfl hx hy) (w_or a b)
theorem r_xorw {T T' : TypeId} {x y : Operand} {a b : UInt32} (hx : ev n env x = W32 a) (hy : ev n env y = W32 b) : Runs P w0 F0 L n env ⟨d, .binOp .xor T x y T', ty, pos, af, gd⟩ (W32 (a ^^^ b)) := r_int (r_bits (op := .xor) rfl hx hy) (w_xor a b)
theorem r_notw {T : TypeId} {x : Operand} {a : UInt32} (hx : ev n env x = W32 a) : Runs P w0 F0 L n env ⟨d, .unOp .xor T x, ty, pos, af, gd⟩ (W32 (~~~a)) := r_int (r_xorU (k := .u32) rfl hx) (w_not a)
theorem r_shlw {T T' : TypeId} {x y : Operand} {k : IntKind} {a : UInt32} {i : Int} {j : Nat} (hx : ev n env x = W32 a) (hy : ev n env y = .int k i) (hi : i = (j : Int)) (hj : j < 32) : Runs P w0 F0 L n env ⟨d, .binOp .shl T x y T', ty, pos, af, gd⟩ (W32 (a <<< UInt32.ofNat j)) := by
  subst hi; exact r_int (r_shl hx hy (by omega)) (w_shl a hj)
theorem r_shrw {T T' : TypeId} {x y : Operand} {k : IntKind} {a : UInt32} {i : Int} {j : Nat} (hx : ev n env x = W32 a) (hy : ev n env y = .int k i) (hi : i = (j : Int)) (hj : j < 32) : Runs P w0 F0 L n env ⟨d, .binOp .shr T x y T', ty, pos, af, gd⟩ (W32 (a >>> UInt32.ofNat j)) := by
  subst hi; exact r_int (r_shr hx hy (by omega)) (w_shr a hj)
theorem r_conv8w {S T : TypeId} {x : Operand} {b : UInt8} {ds : TypeDesc} (hx : ev n env x = B8 b) (hs : P.underlying S = some ds) (ht : P.underlying T = some (.int .u32)) : Runs P w0 F0 L n env ⟨d, .convert S T x, ty, pos, af, gd⟩ (W32 b.toUInt32) :=
  r_int (r_conv_int hx hs ht) (by have := b.toNat_lt; rw [u32_wrap, UInt8.toNat_toUInt32]; omega)
theorem r_convw8 {S T : TypeId} {x : Operand} {a : UInt32} {ds : TypeDesc} (hx : ev n env x = W32 a) (hs : P.underlying S = some ds) (ht : P.underlying T = some (.int .u8)) : Runs P w0 F0 L n env ⟨d, .convert S T x, ty, pos, af, gd⟩ (B8 a.toUInt8) :=
  r_int (r_conv_int hx hs ht) (by
    have h1 : ∀ m : Int, IntKind.u8.wrap m = m % 256 := fun m => by simp [IntKind.wrap, IntKind.bits, IntKind.signed]
    rw [h1, UInt32.toNat_toUInt8]; omega)
theorem r_index1 {x y : Operand} {T e m s : Nat} {cs : List Value} {k : IntKind} {i : Int} {v : Value} (hx : ev n env x = .agg cs.toArray) (hy : ev n env y = .int k i) (ht : arrT P T = some (m, e)) (hs : szT P e = some s) (hr : rowT P e = some false)
    (h0 : 0 ≤ i) (hm : i < m) (hv : cs[i.toNat * s]? = some v) : Runs P w0 F0 L n env ⟨d, .index T x y, ty, pos, af, gd⟩ v := fun w _ => by
  simp only [execOp, hx, hy, Instr.index, asIntOf, Sem.run_bind, Sem.run_pure, Result.andThen_ok, run_underlying (run_arrT ht)]
  simp [h0, hm, run_sz hs, run_part1 hr hv]
theorem r_indexN {x y : Operand} {T e m s : Nat} {cs seg : List Value} {k : IntKind} {i : Int} (hx : ev n env x = .agg cs.toArray) (hy : ev n env y = .int k i) (ht : arrT P T = some (m, e)) (hs : szT P e = some s) (hr : rowT P e = some true)
    (h0 : 0 ≤ i) (hm : i < m) (hv : (cs.drop (i.toNat * s)).take s = seg) : Runs P w0 F0 L n env ⟨d, .index T x y, ty, pos, af, gd⟩ (.agg seg.toArray) := fun w _ => by
  simp only [execOp, hx, hy, Instr.index, asIntOf, Sem.run_bind, Sem.run_pure, Result.andThen_ok, run_underlying (run_arrT ht)]
  simp [h0, hm, run_sz hs, run_partN hr hs hv]
theorem r_buildA {T e m s : Nat} {parts : Array (Nat × Operand)} {zs cs : List Value} (hz : zcT P T = some zs) (ht : arrT P T = some (m, e)) (hs : szT P e = some s)
    (hf : fillL (fun i => some (i * s, s)) zs (parts.toList.map fun p => (p.1, ev n env p.2)) = some cs) : Runs P w0 F0 L n env ⟨d, .build T parts, ty, pos, af, gd⟩ (.agg cs.toArray) := fun w _ => by
  obtain ⟨z, hz', hc⟩ := zcT_some hz
  have hf' : Instr.fill (fun i => some (i * s, s)) z.cells (parts.toList.map fun p => (p.1, ev n env p.2)) = some cs.toArray := fill_of _ _ _ _ (by rw [hc]; exact hf)
  have hcomp : (parts.map fun (i, x) => (i, ev n env x)).toList = parts.toList.map fun p => (p.1, ev n env p.2) := by simp
  simp only [execOp, Instr.build, Sem.run_bind, run_zeroT hz', Result.andThen_ok, run_underlying (run_arrT ht), run_sz hs, hcomp, hf']
  rfl
/-- A cell of a row that is owned. -/
theorem r_ld1r {x : Operand} {T g o i e size m c : Nat} {xs : List Value} {L' : List Res} {v : Value} (hx : ev n env x = .pointer (some ⟨g, o + i, none⟩)) (hr : rowT P T = some false) (hp : Pick L (rowR e size (some ⟨g, o, none⟩) m c xs) L') (hv : xs[i]? = some v) :
    Runs P w0 F0 L n env ⟨d, .load T x, ty, pos, af, gd⟩ v := r_load hx fun w hs => run_loadVar_one hr (by
      have hm : 0 < m := by
        have hl := (hs.row hp).1
        have : i < xs.length := (List.getElem?_eq_some_iff.1 hv).1
        rcases Nat.eq_zero_or_pos m with h0 | h0
        · subst h0; simp at hl; subst hl; simp at this
        · exact h0
      obtain ⟨g', o', ha, _, _, hra⟩ := (hs.row hp).2.2 hm
      cases ha
      exact hra i v hv)
theorem ld_aggS {T g o T' m : Nat} {cs seg : List Value} {L' : List Res} (hr : rowT P T = some true) (hs : szT P T = some m) (hp : Pick L (blk g T' cs) L') (hg : (cs.drop o).take m = seg) (hl : seg.length = m) :
    ∀ w, St w0 F0 L w → (loadVar T ⟨g, o, none⟩).run P w = .ok (.agg seg.toArray) w := fun w hst => run_loadVar_agg hr hs hl fun j v hj => by
  rw [hst.cellOf hp, ← hj, ← hg, List.getElem?_take, List.getElem?_drop]
  rw [if_pos]
  rw [← hl]
  exact (List.getElem?_eq_some_iff.1 hj).1
theorem ld_oneS {T g o T' : Nat} {cs : List Value} {L' : List Res} {v : Value} (hr : rowT P T = some false) (hp : Pick L (blk g T' cs) L') (hv : cs[o]? = some v) :
    ∀ w, St w0 F0 L w → (loadVar T ⟨g, o, none⟩).run P w = .ok v w := fun w hs => run_loadVar_one hr ((hs.cellOf hp o).trans hv)
end

theorem stars_hd {R R' : Res} {L : List Res} {w : World} {F : Nat → Prop} (h : ∀ F, R.on w F → R'.on w F) : stars (R :: L) w F → stars (R' :: L) w F :=
  fun ⟨F1, F2, h1, h2, h3, h4⟩ => ⟨F1, F2, h F1 h1, h2, h3, h4⟩
theorem St.rowLe {w0 w : World} {F0 : Nat → Prop} {L L' : List Res} {e size a m c xs} (hs : St w0 F0 L w) (hp : Pick L (rowR e size a m c xs) L') : m ≤ c ∧ c ≤ maxLen := by
  obtain ⟨F, hF, _⟩ := hs
  obtain ⟨F1, h1, _⟩ := stars_pick hp hF
  exact ⟨h1.2.1, h1.2.2.1⟩
theorem RdRow.cut8 {w : World} {A : Nat → Prop} {n c l h : Nat} {a : Option Addr} {xs : List UInt8} (hr : RdRow w A 1 a n (xs.map B8)) (h1 : l ≤ h) (h2 : h ≤ n) (h3 : n ≤ c) :
    RdRow w A 1 (if c = l then a else a.map (·.add (l * 1))) (h - l) (((xs.drop l).take (h - l)).map B8) := by
  have := hr.cut h1 h2 h3
  rw [Nat.mul_one (h - l), show (List.map B8 xs).drop (l * 1) = (List.map B8 xs).drop l by rw [Nat.mul_one], ← List.map_drop, ← List.map_take] at this
  simpa only [Nat.mul_one] using this
/-- The tail of a row of bytes. -/
theorem stars_tail8 {L : List Res} {w : World} {F : Nat → Prop} {e n c l : Nat} {a : Option Addr} {xs : List UInt8} (hl : l ≤ n) (h : stars (rowR e 1 a n c (xs.map B8) :: L) w F) :
    stars (rowR e 1 (if c = l then a else a.map (·.add (l * 1))) (n - l) (c - l) ((xs.drop l).map B8) :: L) w F := by
  refine stars_hd (fun F hF => ?_) h
  have hlen : n = xs.length := by have := hF.1; simp at this; omega
  have := rowR.cut hF hl (Nat.le_refl n)
  have e1 : ((List.map B8 xs).drop (l * 1)).take ((n - l) * 1) = (xs.drop l).map B8 := by
    rw [Nat.mul_one, Nat.mul_one, ← List.map_drop, List.take_of_length_le (by simp; omega)]
  rwa [e1] at this

/-- Cells that a function lays out. -/
def fnc {α : Type} (V : α → Value) (m : Nat) (f : Nat → α) : List Value := (List.range m).map fun j => V (f j)
theorem fnc_length {α : Type} {V : α → Value} {m : Nat} {f : Nat → α} : (fnc V m f).length = m := by simp [fnc]
theorem fnc_get {α : Type} {V : α → Value} {m j : Nat} {f : Nat → α} (h : j < m) : (fnc V m f)[j]? = some (V (f j)) := by simp [fnc, h]
theorem fnc_one {α : Type} {V : α → Value} (hV : ∀ x, (V x).oneCell' = true) {m : Nat} {f : Nat → α} : ∀ v ∈ fnc V m f, v.oneCell' = true := by
  intro v hv; simp only [fnc, List.mem_map] at hv; obtain ⟨j, _, rfl⟩ := hv; exact hV _
theorem fnc_upd {α : Type} {V : α → Value} {m i : Nat} {f f' : Nat → α} (h : i < m) (h1 : ∀ j, j < m → j ≠ i → f' j = f j) : updL (fnc V m f) i [V (f' i)] = fnc V m f' := by
  apply List.ext_getElem?
  intro j
  simp only [updL, List.length_singleton]
  by_cases hj : j < m
  · rw [fnc_get hj]
    rcases Nat.lt_trichotomy j i with h2 | h2 | h2
    · rw [List.getElem?_append_left (by simp [fnc]; omega), List.getElem?_take, if_pos h2, fnc_get hj, h1 j hj (by omega)]
    · subst h2
      rw [List.getElem?_append_right (by simp [fnc]; omega)]
      simp [fnc, show min j m = j by omega]
    · rw [List.getElem?_append_right (by simp [fnc]; omega), List.getElem?_append_right (by simp [fnc]; omega), List.getElem?_drop]
      have : i + 1 + (j - ((fnc V m f).take i).length - [V (f' i)].length) = j := by simp [fnc]; omega
      rw [this, fnc_get hj, h1 j hj (by omega)]
  · rw [List.getElem?_eq_none (by simp [fnc]; omega), List.getElem?_eq_none (by simp [fnc]; omega)]
theorem fnc_eq {α : Type} {V : α → Value} {m : Nat} {f f' : Nat → α} (h : ∀ j, j < m → f j = f' j) : fnc V m f = fnc V m f' := by
  apply List.map_congr_left; intro j hj; rw [h j (List.mem_range.1 hj)]
theorem fnc_const {α : Type} {V : α → Value} {m : Nat} {x : α} : fnc V m (fun _ => x) = List.replicate m (V x) := by
  apply List.ext_getElem?; intro j; simp [fnc, List.getElem?_replicate]; split <;> simp_all
def pfx {α : Type} (f g : Nat → α) (k j : Nat) : α := if j < k then f j else g j
theorem pfx_zero {α : Type} {V : α → Value} {m : Nat} {f g : Nat → α} : fnc V m (pfx f g 0) = fnc V m g := fnc_eq fun j _ => by simp [pfx]
theorem pfx_full {α : Type} {V : α → Value} {m : Nat} {f g : Nat → α} : fnc V m (pfx f g m) = fnc V m f := fnc_eq fun j h => by simp [pfx, h]
theorem pfx_set {α : Type} {V : α → Value} {m k o : Nat} {f g : Nat → α} {v : Value} (ho : o = k) (hk : k < m) (hv : v = V (f k)) : updL (fnc V m (pfx f g k)) o [v] = fnc V m (pfx f g (k + 1)) := by
  subst ho; subst hv
  have e : f o = pfx f g (o + 1) o := by simp [pfx]
  rw [e]
  exact fnc_upd hk fun j _ hj => by simp only [pfx]; by_cases h : j < o <;> simp [h] <;> (try split) <;> first | rfl | omega
theorem pfx_get {α : Type} {V : α → Value} {m k j o : Nat} {f g : Nat → α} (ho : o = j) (hj : j < k) (hm : j < m) : (fnc V m (pfx f g k))[o]? = some (V (f j)) := by
  subst ho; rw [fnc_get hm]; simp [pfx, hj]
theorem pfx_get2 {α : Type} {V : α → Value} {m k j o : Nat} {f g : Nat → α} (ho : o = j) (hj : k ≤ j) (hm : j < m) : (fnc V m (pfx f g k))[o]? = some (V (g j)) := by
  subst ho; rw [fnc_get hm]; simp [pfx, Nat.not_lt.2 hj]
theorem updL_left {cs tl vs : List Value} {o : Nat} (h : o + vs.length ≤ cs.length) : updL (cs ++ tl) o vs = updL cs o vs ++ tl := by
  simp only [updL]
  rw [List.take_append_of_le_length (by omega), List.drop_append_of_le_length (by omega)]
  simp
theorem get_left {cs tl : List Value} {o : Nat} {v : Value} (h : cs[o]? = some v) : (cs ++ tl)[o]? = some v := by
  rw [List.getElem?_append_left (List.getElem?_eq_some_iff.1 h).1]; exact h
/-- Bytes of a row that is read. -/
theorem cellb {w : World} {g o : Nat} {b : List UInt8} (h : w.rangeAt g o (b.map B8)) {e j : Nat} (he : e = j) (hj : j < b.length) : w.cell? ⟨g, o + e, none⟩ = some (B8 (b.getD j 0)) := by
  subst he
  refine h e _ ?_
  rw [List.getElem?_map, List.getElem?_eq_getElem hj]
  simp [List.getD, List.getElem?_eq_getElem hj]
theorem byte_shrU {m j : Nat} {i : Int} (hi : i = (j : Int)) (hj : 8 * j < 64) : Value.int .u8 (IntKind.u8.wrap ((m : Int).fdiv (2 ^ (min (8 * i).toNat IntKind.u64.bits)))) = B8 (UInt8.ofNat (m / 2 ^ (8 * j))) := by
  subst hi
  have e : min (8 * (j : Int)).toNat IntKind.u64.bits = 8 * j := by simp only [IntKind.bits]; omega
  have h1 : ∀ m : Int, IntKind.u8.wrap m = m % 256 := fun m => by simp [IntKind.wrap, IntKind.bits, IntKind.signed]
  have h2 : (m : Int) / 2 ^ (8 * j) = ((m / 2 ^ (8 * j) : Nat) : Int) := by rw [Int.natCast_ediv, Int.natCast_pow]; rfl
  rw [e, Int.fdiv_eq_ediv_of_nonneg _ (by exact Int.le_of_lt (Int.pow_pos (by omega))), h2]
  simp only [B8, Value.int.injEq, true_and]
  rw [h1, UInt8.toNat_ofNat']; omega
theorem byte_shrI {m : Nat} {j : Nat} {i : Int} (hi : i = (j : Int)) (hj : j < 64) : Value.int .u8 (IntKind.u8.wrap ((m : Int).fdiv (2 ^ (min i.toNat IntKind.i64.bits)))) = B8 (UInt8.ofNat (m / 2 ^ j)) := by
  subst hi
  have e : min (j : Int).toNat IntKind.i64.bits = j := by simp only [IntKind.bits]; omega
  have h1 : ∀ m : Int, IntKind.u8.wrap m = m % 256 := fun m => by simp [IntKind.wrap, IntKind.bits, IntKind.signed]
  have h2 : (m : Int) / 2 ^ j = ((m / 2 ^ j : Nat) : Int) := by rw [Int.natCast_ediv, Int.natCast_pow]; rfl
  rw [e, Int.fdiv_eq_ediv_of_nonneg _ (by exact Int.le_of_lt (Int.pow_pos (by omega))), h2]
  simp only [B8, Value.int.injEq, true_and]
  rw [h1, UInt8.toNat_ofNat']; omega
theorem byte_int {m : Int} : Value.int .u8 (IntKind.u8.wrap m) = B8 (UInt8.ofNat (m % 256).toNat) := by
  have h1 : ∀ m : Int, IntKind.u8.wrap m = m % 256 := fun m => by simp [IntKind.wrap, IntKind.bits, IntKind.signed]
  simp only [B8, Value.int.injEq, true_and]
  rw [h1, UInt8.toNat_ofNat']; omega
theorem rot_and {n : Nat} (h1 : 1 ≤ n) (h2 : n ≤ 31) : bitop .and .u64 (IntKind.u64.wrap (-(n : Int))) 31 = ((32 - n : Nat) : Int) := by
  have h : ∀ m : Fin 31, bitop .and .u64 (IntKind.u64.wrap (-((m.val + 1 : Nat) : Int))) 31 = ((32 - (m.val + 1) : Nat) : Int) := by decide
  have := h ⟨n - 1, by omega⟩
  simp only [show n - 1 + 1 = n by omega] at this
  exact this
end Go.Proofs.YtffkjjakceojfaaDoor
