/- Part 3. What is proved: see the last part: for every input the law returns true, and the input reads as it did. -/
import Derived.Test.YtffkjjakceojfaaDoorCo2
import Derived.WalkKit
import Derived.LaidEql
import Derived.Stop.Asserts
import Derived.RowKitTokens
import Derived.Lib.LaidTab
/- The engine, part P: bytes in a row of one's own. -/
namespace Go.Proofs.YtffkjjakceojfaaDoor
open Go
set_option linter.unusedVariables false
set_option linter.unusedSimpArgs false
theorem updL_set {α : Type} {V : α → Value} {l : List α} {i : Nat} {y : α} (h : i < l.length) : updL (l.map V) i [V y] = (l.set i y).map V := by
  apply List.ext_getElem?
  intro j
  simp only [updL, List.length_singleton]
  rw [List.getElem?_map, List.getElem?_set]
  by_cases h1 : j < i
  · rw [List.getElem?_append_left (by simp; omega), List.getElem?_take, if_pos h1, List.getElem?_map, if_neg (by omega)]
  · by_cases h2 : j = i
    · subst h2
      rw [List.getElem?_append_right (by simp; omega)]
      simp [show min j l.length = j by omega, h]
    · rw [List.getElem?_append_right (by simp; omega), List.getElem?_append_right (by simp; omega), List.getElem?_drop, List.getElem?_map, if_neg (fun e => h2 e.symm)]
      congr 2
      simp; omega
def updY (o : Nat) (m l : List UInt8) : List UInt8 := l.take o ++ (m ++ l.drop (o + m.length))
theorem updL_updY (o : Nat) (m l : List UInt8) : updL (l.map B8) o (m.map B8) = (updY o m l).map B8 := by
  simp [updL, updY, List.map_take, List.map_drop]
/-- One fresh cell in a block of its own, no mark on it. -/
def rowZ (g e : Nat) (v : Value) : Res where
  on w F := (∀ k, F k ↔ k = g) ∧ w.heap[g]? = some (.cells #[v] e (0, 0))
  loc := fun ⟨hF, h⟩ hk => ⟨hF, (hk g ((hF g).2 rfl)).trans h⟩
  lt := fun ⟨hF, h⟩ k hk => by
    rw [(hF k).1 hk]
    exact (Array.getElem?_eq_some_iff.1 h).1
section
variable {P : Program} {w0 : World} {F0 : Nat → Prop} {L : List Res} {Q : Exit → Act → World → Prop} {n : Nat} {env : Env} {ops : Array Oper} {rest : List Oper} {ty : TypeId} {pos : String} {af : Array Edge} {gd : Option (Nat × Bool)} {d : Option Tmp}
theorem r_ldY {x : Operand} {T g o : Nat} {l : List UInt8} {L' : List Res} {T' : Nat} [RO P T] (i : Nat) (hi : i < l.length) (hx : ev n env x = .pointer (some ⟨g, o, none⟩) := by exact rfl) (ho : o = i := by omega) (hp : Pick L (blk g T' (l.map B8)) L' := by repeat (first | exact Pick.here | apply Pick.there)) :
    Runs P w0 F0 L n env ⟨d, .load T x, ty, pos, af, gd⟩ (B8 (l.getD i 0)) := r_ld1 hx RO.h hp (by subst ho; simp [List.getD, hi])
theorem gl_stY {x y : Operand} {T g o : Nat} {l l' : List UInt8} {v : UInt8} {L' : List Res} {T' : Nat} [SZ P T 1] (i : Nat) (hi : i < l.length) (hf : l.set i v = l') (k : Gl P w0 F0 (blk g T' (l'.map B8) :: L') ops Q rest n env) (hx : ev n env x = .pointer (some ⟨g, o, none⟩) := by exact rfl) (hy : ev n env y = B8 v := by exact rfl) (ho : o = i := by omega)
    (hp : Pick L (blk g T' (l.map B8)) L' := by repeat (first | exact Pick.here | apply Pick.there)) (hw : Wt ops n env ⟨none, .store T x y, ty, pos, af, gd⟩ true := by first | exact wt0 rfl | exact wtgT rfl rfl rfl rfl) :
    Gl P w0 F0 L ops Q (⟨none, .store T x y, ty, pos, af, gd⟩ :: rest) n env := by
  subst ho; subst hf
  exact gl_store1 hw hx hy rfl SZ.h hp (by rw [List.length_map]; omega) (updL_set hi) k
theorem r_max {x y : Operand} {T1 T2 : TypeId} {k : IntKind} {i j : Int} (hx : ev n env x = .int k i := by exact rfl) (hy : ev n env y = .int k j := by exact rfl) :
    Runs P w0 F0 L n env ⟨d, .call ⟨.builtin .max, #[x, y], #[T1, T2]⟩, ty, pos, af, gd⟩ (.int k (if i < j then j else i)) := fun w _ => by
  simp only [execOp, resolve, invoke, builtin]
  simp [hx, hy, Builtin.max_, Builtin.max2]
theorem r_nepn {x : Operand} {T T' e : TypeId} {a : Option Addr} (hx : ev n env x = .pointer a := by exact rfl) (ht : P.underlying T = some (.pointer e)) :
    Runs P w0 F0 L n env ⟨d, .binOp .neq T x (.const (.pointer none)) T', ty, pos, af, gd⟩ (.bool (!a.isNone)) := fun w _ => by
  have h : ∀ d : Nat, (Op.equalIn (d + 1) T (.pointer a) (.pointer none)).run P w = .ok a.isNone w := fun d => by
    cases a <;> simp [Op.equalIn, run_underlying ht]
  have h9 := h 9999
  have hc : ev n env (.const (.pointer none)) = .pointer none := rfl
  simp only [execOp, hx, hc]
  simp [eqGuard, binOp, Op.equal, Op.maxDepth, h9]
theorem gl_bs1Z {t : Tmp} {T e : Nat} {x : Operand} {v : Value} {z : List Value} (hw : Wt ops n env ⟨some t, .buildSlice T 1 #[(0, x)], ty, pos, af, gd⟩ true) (ht : sliceT P T = some e) (hs : szT P e = some 1) (hz : zcT P e = some z) (hx : ev n env x = v) (h1 : v.oneCell' = true)
    (k : ∀ b, Gl P w0 F0 (rowZ b e v :: L) ops Q rest n ((t, .slice (some ⟨b, 0, none⟩) 1 1) :: env)) : Gl P w0 F0 L ops Q (⟨some t, .buildSlice T 1 #[(0, x)], ty, pos, af, gd⟩ :: rest) n env := by
  refine gl_effx (α := Nat) (L' := fun b => rowZ b e v :: L) (v := fun b => .slice (some ⟨b, 0, none⟩) 1 1) hw (fun w hst => ?_) k
  obtain ⟨zv, hz', hc⟩ := zcT_some hz
  have hfill : Instr.fill (fun i => some (i * 1, 1)) ((Array.range (1 * 1)).map fun i => zv.cells[i % zv.cells.size]!) [(0, v)] = some #[v] := by
    have hv : v.cells = #[v] := by cases v <;> first | rfl | (simp [Value.oneCell'] at h1)
    have := fill_of (fun i => some (i * 1, 1)) [(0, v)] ((Array.range (1 * 1)).map fun i => zv.cells[i % zv.cells.size]!) [v] (by
      have h2 := fillL_row 1 [v] [[v]] 0 [] ((List.range (1 * 1)).map fun i => zv.cells[i % zv.cells.size]!) (by simp) (by simp) (by simp [hv]) (by simp)
      simpa using h2)
    simpa using this
  refine ⟨w.heap.size, { w with heap := w.heap.push (.cells #[v] e) }, ?_, hst.pushR fun w' h => ⟨fun k => Iff.rfl, h⟩⟩
  simp only [execOp, Instr.buildSlice, Sem.run_bind, run_underlying (run_sliceT ht), Result.andThen_ok, run_sz hs]
  rw [if_neg (by omega), if_neg (by omega)]
  have hcomp : ((#[(0, x)] : Array (Nat × Operand)).map fun (i, x) => (i, ev n env x)).toList = [(0, v)] := by simp [hx]
  simp only [Sem.run_bind, run_zeroT hz', Result.andThen_ok, Sem.run_pure, hcomp, hfill, newRow, newObj, Sem.run, Sem.run_map]
theorem gl_cvZ {t : Tmp} {T e g : Nat} {x : Operand} {v : Value} {L' : List Res} (hw : Wt ops n env ⟨some t, .convert T T x, ty, pos, af, gd⟩ true) (hx : ev n env x = .slice (some ⟨g, 0, none⟩) 1 1) (ht : sliceT P T = some e) (he : P.underlying e = some (.int .u8)) (hp : Pick L (rowZ g e v) L')
    (k : Gl P w0 F0 (rowR e 1 (some ⟨g, 0, none⟩) 1 1 [v] :: L') ops Q rest n ((t, .slice (some ⟨g, 0, none⟩) 1 1) :: env)) : Gl P w0 F0 L ops Q (⟨some t, .convert T T x, ty, pos, af, gd⟩ :: rest) n env := by
  refine gl_eff (L' := rowR e 1 (some ⟨g, 0, none⟩) 1 1 [v] :: L') (v := .slice (some ⟨g, 0, none⟩) 1 1) hw (fun w hst => ?_) k
  have hst0 := hst
  obtain ⟨F, hF, _⟩ := hst0
  obtain ⟨F1, F2, ⟨hF1, hh⟩, _, hE, _⟩ := hp.stars hF
  have hlt : g < w.heap.size := (Array.getElem?_eq_some_iff.1 hh).1
  have hsh : w.shape? g = some (e, 1) := by unfold World.shape?; rw [hh]; rfl
  have hfz : w.freeze ⟨g, 1, none⟩ 1 = { w with heap := w.heap.setIfInBounds g (.cells #[v] e (1, 2)) } := by
    unfold World.freeze
    rw [if_neg (by decide)]
    congr 1
    apply Array.ext_getElem?
    intro i
    rw [Array.getElem?_modify, Array.getElem?_setIfInBounds]
    by_cases hi : g = i
    · subst hi; rw [if_pos rfl, if_pos rfl, if_pos hlt, hh]; rfl
    · rw [if_neg hi, if_neg hi]
  refine ⟨{ w with heap := w.heap.setIfInBounds g (.cells #[v] e (1, 2)) }, ?_, hst.setR hp (fun F h => ⟨(h.1 g).2 rfl, hlt⟩) (fun w' F h hg' _ => ⟨rfl, Nat.le_refl _, by decide, .inr ⟨g, 0, #[v], (1, 2), rfl, h.1, hg', fun i hi h => (by simp at hi; omega), by simp, by simp⟩⟩)⟩
  simp [execOp, hx, convert, run_underlying (run_sliceT ht), run_underlying he, markStringish, shape, freeze, Sem.run, hsh, hfz]
/-- What a block of one's own reads as, seen from a call that has other things. -/
theorem rd_blkY {L L' : List Res} {w : World} {F1 F2 : Nat → Prop} {g T o m : Nat} {l : List UInt8} (h2 : stars L w F2) (hd : ∀ k, F1 k → ¬ F2 k) (hp : Pick L (blk g T (l.map B8)) L') (hl : o + m ≤ l.length) (hm : m ≤ maxLen) :
    RdRow w (fun k => ¬ F1 k) 1 (some ⟨g, o, none⟩) m (((l.drop o).take m).map B8) := by
  obtain ⟨F', h', hs⟩ := stars_pick hp h2
  exact (RdRow.of_blk h' (n := m) (size := 1) (o := o) (by rw [Nat.mul_one, List.map_take, List.map_drop]) (by simp; omega) hm).mv fun k _ hk => ⟨rfl, fun h1 => hd k h1 (hs k hk)⟩
theorem St.rdBlkY {w : World} {g T o m : Nat} {l : List UInt8} {L' : List Res} (hs : St w0 F0 L w) (hp : Pick L (blk g T (l.map B8)) L') (hl : o + m ≤ l.length) (hm : m ≤ maxLen) : RdRow w (fun _ => True) 1 (some ⟨g, o, none⟩) m (((l.drop o).take m).map B8) := by
  obtain ⟨F, hF, _⟩ := hs
  obtain ⟨F', h', _⟩ := stars_pick hp hF
  exact (RdRow.of_blk h' (n := m) (size := 1) (o := o) (by rw [Nat.mul_one, List.map_take, List.map_drop]) (by simp; omega) hm).mv fun k _ hk => ⟨rfl, trivial⟩
theorem RdRow.cutY {w : World} {A : Nat → Prop} {n c h : Nat} {a : Option Addr} {xs : List UInt8} (hr : RdRow w A 1 a n (xs.map B8)) (h2 : h ≤ n) (h3 : n ≤ c) : RdRow w A 1 (if c = 0 then a else a.map (·.add (0 * 1))) h ((xs.take h).map B8) := by
  have := hr.cut8 (l := 0) (h := h) (Nat.zero_le _) h2 h3
  rwa [List.drop_zero, Nat.sub_zero] at this
end
end Go.Proofs.YtffkjjakceojfaaDoor

/- Plain words on slots: a slot's bytes, and what is read off a sector. -/
namespace Go.Proofs.YtffkjjakceojfaaDoor
open Go
set_option linter.unusedVariables false
set_option linter.unusedSimpArgs false
def mx0 (c : Int) : Int := if c < 0 then 0 else c
def body7 (c : Int) (r : List UInt8) : List UInt8 := beN c 8 ++ UInt8.ofNat r.length :: (r ++ List.replicate (31 - r.length) 0)
theorem body7_len {c : Int} {r : List UInt8} (h : r.length ≤ 31) : (body7 c r).length = 40 := by simp [body7, beN_length]; omega
theorem take31 (r : List UInt8) : (r.take 31).length ≤ 31 := by rw [List.length_take]; omega
def sum7 (c : Int) (r : List UInt8) : List UInt8 := (dOf Kc 5 [body7 c r]).l
theorem sum7_len (c : Int) (r : List UInt8) : (sum7 c r).length = 16 := (dOf Kc 5 [body7 c r]).h
def slotL (c : Int) (r : List UInt8) : List UInt8 := body7 c r ++ (sum7 c r ++ List.replicate 8 0)
def slotS (c : Int) (r : List UInt8) : Sec := ⟨slotL (mx0 c) (r.take 31), by rw [slotL, List.length_append, List.length_append, body7_len (take31 r), sum7_len]; simp⟩
theorem slot_build {c : Int} {r : List UInt8} (h : r.length ≤ 31) : updY 40 (sum7 c r) ((updY 9 r (beN c 8 ++ List.replicate 56 0)).set 8 (UInt8.ofNat r.length)) = slotL c r := by
  have hb := beN_length c 8
  have e1 : updY 9 r (beN c 8 ++ List.replicate 56 0) = beN c 8 ++ 0 :: (r ++ List.replicate (55 - r.length) 0) := by
    rw [updY, List.take_append, List.drop_append, hb, List.take_of_length_le (by omega), List.drop_eq_nil_of_le (by omega)]
    simp only [List.nil_append, List.drop_replicate, List.append_assoc]
    rw [show List.take (9 - 8) (List.replicate 56 (0 : UInt8)) = [0] from rfl]
    simp only [List.cons_append, List.nil_append]
    rw [show 56 - (9 + r.length - 8) = 55 - r.length by omega]
  have e2 : (beN c 8 ++ 0 :: (r ++ List.replicate (55 - r.length) 0)).set 8 (UInt8.ofNat r.length) = body7 c r ++ List.replicate 24 0 := by
    rw [List.set_append_right _ _ (by omega), hb, body7]
    simp only [Nat.sub_self, List.set_cons_zero, List.append_assoc, List.cons_append]
    rw [show 55 - r.length = (31 - r.length) + 24 by omega, ← List.replicate_append_replicate]
  rw [e1, e2, updY, List.take_append, List.drop_append, body7_len h, List.take_of_length_le (by rw [body7_len h]; omega), List.drop_eq_nil_of_le (by rw [body7_len h]; omega), sum7_len, slotL]
  simp
theorem slot_body {c : Int} {r : List UInt8} (h : r.length ≤ 31) : (((updY 9 r (beN c 8 ++ List.replicate 56 0)).set 8 (UInt8.ofNat r.length)).drop 0).take 40 = body7 c r := by
  have e := congrArg (List.take 40) (slot_build (c := c) h)
  have hl : ((updY 9 r (beN c 8 ++ List.replicate 56 0)).set 8 (UInt8.ofNat r.length)).length = 64 := by simp [updY, beN_length]; omega
  rw [updY, List.take_append_of_le_length (by rw [List.length_take, hl]; omega), List.take_take] at e
  rw [List.drop_zero]
  simp only [Nat.min_self] at e
  rw [e, slotL, List.take_append_of_le_length (by rw [body7_len h]; omega), List.take_of_length_le (by rw [body7_len h]; omega)]
theorem slot_step {c : Int} {k : Nat} (hk : k < 8) : ((beN c 8).take k ++ List.replicate (64 - k) 0).set k (byteAt c (8 - 1 - k)) = (beN c 8).take (k + 1) ++ List.replicate (64 - (k + 1)) 0 := by
  have hb := beN_length c 8
  have hk2 : ((beN c 8).take k).length = k := by rw [List.length_take]; omega
  rw [List.set_append_right _ _ (by omega), hk2, Nat.sub_self, show 64 - k = (64 - (k + 1)) + 1 by omega, List.replicate_succ, List.set_cons_zero, List.take_add_one]
  have : (beN c 8)[k]? = some (byteAt c (8 - 1 - k)) := by simp [beN, hk]
  rw [this]
  simp
/-! ### Reading -/
def cntS (s : Sec) : Nat := valN (s.l.take 8)
def lenS (s : Sec) : Nat := (s.l.getD 8 0).toNat
def recS (s : Sec) : List UInt8 := (s.l.drop 9).take (lenS s)
theorem cntS_lt (s : Sec) : cntS s < 18446744073709551616 := by
  have := valN_lt (s.l.take 8)
  have e : (s.l.take 8).length = 8 := by rw [List.length_take, s.h]; rfl
  rw [e] at this
  exact Nat.lt_of_lt_of_le this (by decide)
theorem recS_len {s : Sec} (h : lenS s ≤ 31) : (recS s).length = lenS s := by rw [recS, List.length_take, List.length_drop, s.h]; omega
def rdSlot (s : Sec) (p : Nat) : Option (Nat × List UInt8) := if cntS s < 9223372036854775808 ∧ cntS s % 2 = p ∧ lenS s ≤ 31 ∧ slotS (cntS s) (recS s) = s then some (cntS s, recS s) else none
theorem rdSlot_some {s : Sec} {p c : Nat} {r : List UInt8} (h : rdSlot s p = some (c, r)) : c = cntS s ∧ r = recS s ∧ c < 9223372036854775808 ∧ c % 2 = p ∧ lenS s ≤ 31 ∧ slotS c r = s ∧ r.length = lenS s := by
  unfold rdSlot at h
  split at h
  · rename_i hc
    cases h
    exact ⟨rfl, rfl, hc.1, hc.2.1, hc.2.2.1, hc.2.2.2, recS_len hc.2.2.1⟩
  · cases h
theorem slot_take8 {c : Nat} {r : List UInt8} (h : c < 9223372036854775808) : (slotS c r).l.take 8 = beN (c : Int) 8 := by
  show (slotL (mx0 c) (r.take 31)).take 8 = _
  rw [mx0, if_neg (by omega), slotL, body7, List.append_assoc, List.take_append_of_le_length (by rw [beN_length]; omega), List.take_of_length_le (by rw [beN_length]; omega)]
theorem slot_cnt {c : Nat} {r : List UInt8} (h : c < 9223372036854775808) : cntS (slotS c r) = c := by
  rw [cntS, slot_take8 h, valN_beN, Nat.mod_eq_of_lt (Nat.lt_trans h (by decide))]
theorem slot_drop8 {c : Nat} {r : List UInt8} (h : c < 9223372036854775808) (hr : r.length ≤ 31) : (slotS c r).l.drop 8 = UInt8.ofNat r.length :: (r ++ (List.replicate (31 - r.length) 0 ++ (sum7 c r ++ List.replicate 8 0))) := by
  show (slotL (mx0 c) (r.take 31)).drop 8 = _
  rw [mx0, if_neg (by omega), List.take_of_length_le hr, slotL, body7, List.append_assoc, List.drop_append, beN_length, List.drop_eq_nil_of_le (by rw [beN_length]; omega)]
  simp
theorem slot_len {c : Nat} {r : List UInt8} (h : c < 9223372036854775808) (hr : r.length ≤ 31) : lenS (slotS c r) = r.length := by
  have e : (slotS c r).l.getD 8 0 = UInt8.ofNat r.length := by
    have := congrArg (fun l => l[0]?) (slot_drop8 (r := r) h hr)
    simp only [List.getElem?_drop, List.getElem?_cons_zero, Nat.add_zero] at this
    simp [List.getD, this]
  rw [lenS, e, UInt8.toNat_ofNat']
  omega
theorem slot_rec {c : Nat} {r : List UInt8} (h : c < 9223372036854775808) (hr : r.length ≤ 31) : recS (slotS c r) = r := by
  rw [recS, slot_len h hr, show (slotS c r).l.drop 9 = ((slotS c r).l.drop 8).drop 1 by rw [List.drop_drop], slot_drop8 h hr]
  simp
theorem rd_slot {c : Nat} {r : List UInt8} (h : c < 9223372036854775808) (hr : r.length ≤ 31) : rdSlot (slotS c r) (c % 2) = some (c, r) := by
  rw [rdSlot, slot_cnt h, slot_len h hr, slot_rec h hr, if_pos ⟨h, rfl, hr, rfl⟩]
theorem rd_other {c p : Nat} {r : List UInt8} (h : c < 9223372036854775808) (hp : c % 2 ≠ p) : rdSlot (slotS c r) p = none := by
  rw [rdSlot, slot_cnt h, if_neg (fun k => hp k.2.1)]
theorem rd_zero1 : rdSlot sec0 1 = none := by
  have : cntS sec0 = 0 := by simp [cntS, sec0, valN]
  rw [rdSlot, this, if_neg (by omega)]
end Go.Proofs.YtffkjjakceojfaaDoor

/- Walks, by program (wg.py) out of a spec. -/
namespace Go.Proofs.YtffkjjakceojfaaDoor
open Go
set_option linter.unusedVariables false
set_option linter.unusedSimpArgs false

theorem byte_shr {n : Int} {wd k : Nat} {i : Int} (hi : i = (wd : Int) - 1 - k) (hk : k < wd) (hw : wd ≤ 8) :
    Value.int .u8 (IntKind.u8.wrap (n.fdiv (2 ^ (min (8 * i).toNat IntKind.i64.bits)))) = B8 (byteAt n (wd - 1 - k)) := by
  subst hi
  have e : min (8 * ((wd : Int) - 1 - k)).toNat IntKind.i64.bits = 8 * (wd - 1 - k) := by simp only [IntKind.bits]; omega
  rw [e, Int.fdiv_eq_ediv_of_nonneg _ (by exact Int.le_of_lt (Int.pow_pos (by omega)))]
  simp only [B8, byteAt, Value.int.injEq, true_and]
  generalize n / 2 ^ (8 * (wd - 1 - k)) = m
  have h1 : IntKind.u8.wrap m = m % 256 := by simp [IntKind.wrap, IntKind.bits, IntKind.signed]
  rw [h1, UInt8.toNat_ofNat']
  omega
theorem valN_snoc (l : List UInt8) (b : UInt8) : valN (l ++ [b]) = valN l * 256 + b.toNat := by simp [valN, List.foldl_append]
theorem RdList.single {α : Type} {rd : List Value → α → Prop} {w : World} {A : Nat → Prop} {size : Nat} {a : Option Addr} {cs : List Value} {x : α} (hr : RdRow w A size a 1 cs) (hx : rd cs x) : RdList rd w A size a 1 [x] :=
  ⟨[cs], by simpa using hr, by simpa using hr.1, rfl, fun i c y h1 h2 => by
    cases i with
    | zero => simp at h1 h2; subst h1; subst h2; exact hx
    | succ i => simp at h1⟩
theorem rd_le {L L' : List Res} {w : World} {F2 : Nat → Prop} {e size n c : Nat} {a : Option Addr} {xs : List Value} (h2 : stars L w F2) (hp : Pick L (rowR e size a n c xs) L') : n ≤ c := by
  obtain ⟨F', h', hs⟩ := stars_pick hp h2; exact h'.2.1
theorem St.rowNil {w0 w : World} {F0 : Nat → Prop} {e size : Nat} {L : List Res} (h : St w0 F0 L w) : St w0 F0 (rowR e size none 0 0 [] :: L) w := by
  obtain ⟨F, hF, hst⟩ := h; exact ⟨F, stars_row_nil hF, hst⟩
theorem RdRow.none {w : World} {A : Nat → Prop} {size n : Nat} {xs : List Value} (h : RdRow w A size none n xs) : n = 0 ∧ xs = [] := by
  have h0 : n = 0 := by
    rcases Nat.eq_zero_or_pos n with h0 | h0
    · exact h0
    · obtain ⟨_, _, ha, _⟩ := h.2.2 h0; cases ha
  subst h0
  exact ⟨rfl, List.length_eq_zero_iff.1 (by simpa using h.1)⟩

theorem take_snoc' {l : List UInt8} {k : Nat} (h : k < l.length) : l.take (k + 1) = l.take k ++ [l.getD k 0] := by
  rw [List.take_add_one, List.getElem?_eq_getElem h]; simp [List.getD, h]
theorem take_take31 (r : List UInt8) : r.take (r.take 31).length = r.take 31 := by
  rw [List.length_take]
  by_cases h : r.length ≤ 31
  · rw [Nat.min_eq_right h, List.take_length, List.take_of_length_le h]
  · rw [Nat.min_eq_left (by omega)]
theorem conv_len {m : Nat} (h : m ≤ 255) : Value.int .u8 (IntKind.u8.wrap (m : Int)) = B8 (UInt8.ofNat m) := by
  rw [wrap_u8 (by omega) (by omega), B8, UInt8.toNat_ofNat', Nat.mod_eq_of_lt (by omega)]
theorem wrap_cong {x : Int} : IntKind.i64.wrap x % 18446744073709551616 = x % 18446744073709551616 := by
  simp only [IntKind.wrap, IntKind.bits, IntKind.signed]
  simp
  split <;> omega
theorem wrap_eq {x y : Int} (h : x % 18446744073709551616 = y % 18446744073709551616) : IntKind.i64.wrap x = IntKind.i64.wrap y := by
  simp only [IntKind.wrap, IntKind.bits, IntKind.signed]
  simp only [show ((2 : Int) ^ 64) = 18446744073709551616 by decide, h]
theorem shl8 {m : Nat} : IntKind.i64.wrap (IntKind.i64.wrap (m : Int) * 2 ^ (min (8 : Int).toNat IntKind.i64.bits)) = IntKind.i64.wrap ((m * 256 : Nat) : Int) := by
  have e : (2 : Int) ^ (min (8 : Int).toNat IntKind.i64.bits) = 256 := by decide
  rw [e]
  apply wrap_eq
  have := wrap_cong (x := (m : Int))
  rw [Int.mul_emod, this, ← Int.mul_emod]
  simp
theorem orW {m : Nat} {b : UInt8} (h : m < 72057594037927936) : bitop .or .i64 (IntKind.i64.wrap ((m * 256 : Nat) : Int)) (b.toNat : Int) = IntKind.i64.wrap ((m * 256 + b.toNat : Nat) : Int) := by
  have hb := b.toNat_lt
  have e : m * 256 ||| b.toNat = m * 256 + b.toNat := by
    have := Nat.shiftLeft_add_eq_or_of_lt (i := 8) (b := b.toNat) (by omega) m
    rw [Nat.shiftLeft_eq] at this
    exact this.symm
  have h64 : (2 : Nat) ^ 64 = 18446744073709551616 := by decide
  have h0 : (BitVec.ofInt IntKind.i64.bits (IntKind.i64.wrap ((m * 256 : Nat) : Int))).toNat = m * 256 := by
    show (BitVec.ofInt 64 _).toNat = _
    rw [BitVec.toNat_ofInt, show (((2 ^ 64 : Nat)) : Int) = 18446744073709551616 by decide, wrap_cong]
    omega
  have h1 : (BitVec.ofInt IntKind.i64.bits (IntKind.i64.wrap ((m * 256 : Nat) : Int)) ||| BitVec.ofInt IntKind.i64.bits ((b.toNat : Nat) : Int)).toNat = m * 256 + b.toNat := by
    rw [BitVec.toNat_or, h0, BitVec.ofInt_natCast, BitVec.toNat_ofNat]
    simp only [IntKind.bits]
    rw [h64, Nat.mod_eq_of_lt (by omega), e]
  show IntKind.i64.wrap ((BitVec.ofInt IntKind.i64.bits (IntKind.i64.wrap ((m * 256 : Nat) : Int)) ||| BitVec.ofInt IntKind.i64.bits ((b.toNat : Nat) : Int)).toNat : Int) = _
  rw [h1]
theorem wrap_big {x : Nat} (h : 9223372036854775808 ≤ x) (h2 : x < 18446744073709551616) : IntKind.i64.wrap (x : Int) < 0 := by
  simp only [IntKind.wrap, IntKind.bits, IntKind.signed]
  simp
  split <;> omega
theorem valN_lt7 {l : List UInt8} {k : Nat} (h : k < 8) : valN (l.take k) < 72057594037927936 := by
  refine Nat.lt_of_lt_of_le (valN_lt _) ?_
  have : (l.take k).length ≤ 7 := by rw [List.length_take]; omega
  exact Nat.le_trans (Nat.pow_le_pow_right (by decide) this) (by decide)
section
variable {P : Program} {w0 : World} {F0 : Nat → Prop} {L : List Res} {n : Nat} {env : Env}
theorem gx_ret3 {fn : Func} {R : Ending → World → Prop} {t u s : Tmp} {v x y : Value} (hr : fn.results = #[.tmp t, .tmp u, .tmp s]) (hv : ev n env (.tmp t) = v) (hx : ev n env (.tmp u) = x) (hy : ev n env (.tmp s) = y)
    (hR : ∀ w, St w0 F0 L w → R (.returned (.tuple #[v, x, y])) w) : Gx w0 F0 L (bodyPost P fn R) .ret n env :=
  gx_end (fun w _ => by simp [results, hr, fr_tmp' hv, fr_tmp' hx, fr_tmp' hy]) hR
end

attribute [local irreducible] Gl Gc Gx Gs Runs Wt

set_option maxHeartbeats 400000 in
theorem cloneBytes_ok {w : World} {F : Nat → Prop} {n c : Nat} {a : Option Addr} {xs : List Value} (h : stars [] w F) (hx : RdRow w (fun k => ¬ F k) 1 a n xs) (h1 : ∀ u ∈ xs, u.oneCell' = true) (hb : n ≤ 1099511627776) :
    Calls Tryd.prog 28 #[.slice a n c] w (Post w F (fun r : Option Addr × Nat => .slice r.1 n r.2) (fun r => [rowR 5 1 r.1 n r.2 xs])) := by
  refine g_enter (env := [(0, .slice a n c)]) Tryd.func28 rfl h Tryd.ntmps28 rfl rfl ?_
  refine gsr ?_
  refine gp zas ?_
  refine gnt ?_
  refine gc_seq ?_
  refine gsr ?_
  refine gp zmv ?_
  refine gp zen ?_
  refine gnt ?_
  refine gif rfl (fun hc4 => ?_) (fun hc4 => ?_)
  · refine gsr ?_
    refine gp zas ?_
    refine gnt ?_
    refine gc_ret ?_
    refine gx_then_ret ?_
    refine gx_ret1 rfl (by conv => lhs; whnf) ?_
    have ha : a = none := by cases a <;> simp_all
    subst ha
    obtain ⟨rfl, rfl⟩ := hx.none
    exact fun w' hw => ⟨(none, 0), rfl, hw.rowNil.sel (by repeat (first | exact Sel.nil | (apply Sel.cons; · (repeat (first | exact Pick.here | apply Pick.there)))))⟩
  · refine gc_skip ?_
    refine gx_then ?_
    refine gsr ?_
    refine ze0 fun b5 => ?_
    refine gp zmv ?_
    refine gl_append (wt0 rfl) rfl rfl (by repeat (first | exact Pick.here | apply Pick.there)) Ty.el_32 (fun w' hw => hw.rdOld hx) h1 (by simp only [maxLen]; omega) (by omega) ?_
    intro a1 c1
    refine gp zas ?_
    refine gnt ?_
    refine gc_ret ?_
    refine gx_ret1 rfl (by conv => lhs; whnf) ?_
    rw [Nat.zero_add]
    exact fun w' hw => ⟨(a1, c1), rfl, hw.sel (by repeat (first | exact Sel.nil | (apply Sel.cons; · (repeat (first | exact Pick.here | apply Pick.there)))))⟩

set_option maxHeartbeats 400000 in
theorem slot_ok {w : World} {F : Nat → Prop} {c : Int} {a : Option Addr} {n cc : Nat} {r : List UInt8} (h : stars [] w F) (hK : KR w (fun k => ¬ F k)) (hr : RdRow w (fun k => ¬ F k) 1 a n (r.map B8)) (hc : n ≤ cc) :
    Calls Tryd.prog 17 #[.int .i64 c, .slice a n cc] w (Post w F (fun _ : Unit => scV (slotS c r)) (fun _ => [])) := by
  have hn : n = r.length := by have := hr.1; simp at this; omega
  have hm31 := take31 r
  have hm : (r.take 31).length = min 31 r.length := List.length_take
  have hrow := hr.cutY (h := (r.take 31).length) (by omega) hc
  rw [take_take31] at hrow
  have hb8 := beN_length (mx0 c) 8
  refine g_enter (env := [(0, .int .i64 c), (1, .slice a n cc)]) Tryd.func17 rfl h Tryd.ntmps17 rfl rfl ?_
  refine gsr ?_
  refine zal fun b4 => ?_
  refine gnt ?_
  refine gsr ?_
  refine zal fun b5 => ?_
  refine gl_eqc (cs' := (List.replicate 64 (0 : UInt8)).map B8) (by repeat (first | exact Pick.here | apply Pick.there)) (by simp [B8]) ?_
  refine gnt ?_
  refine gsr ?_
  refine gp zmv ?_
  refine gp (r_int (j := mx0 c) r_max rfl) ?_
  refine gp zas ?_
  refine gnt ?_
  refine gc_seq ?_
  refine gsr ?_
  refine gp zmv ?_
  refine gnt ?_
  refine gc_block ?_
  refine gc_loop (α := Nat) (fun k => [pureR (k ≤ 8), blk b4 37 (List.replicate 64 (.int .u8 0)), blk b5 37 (((beN (mx0 c) 8).take k ++ List.replicate (64 - k) 0).map B8)]) (fun k => [(11, .int .i64 (k : Int))]) [6, 12, 13, 14, 15, 16, 17, 18, 19, 20, 21, 22] (fun k => 8 - k) 0 ?_ ?_ ?_
  · refine env_start (by kernel_rfl)
  · simp only [List.take_zero, List.nil_append, Nat.sub_zero]
    exact zlp (Nat.zero_le _)
  · intro k u
    refine gc_pureR (fun hk => ?_)
    replace hk : k ≤ 8 := hk
    refine gsr ?_
    refine gp zlt ?_
    refine gnt ?_
    refine gc_seq ?_
    refine gif rfl (fun hc12 => ?_) (fun hc12 => ?_)
    · try simp only at hc12
      have hk' : k < 8 := by omega
      refine gc_skip ?_
      refine gx_then ?_
      refine gc_seq ?_
      refine gc_block ?_
      refine gsr ?_
      refine gp zmv ?_
      refine gp zas ?_
      refine gnt ?_
      refine gc_region ?_
      refine gp zmv ?_
      refine gp zmv ?_
      refine gp zmv ?_
      refine gp zsb ?_
      refine gp zml ?_
      refine gp zhr ?_
      refine gp (r_val zci (byte_shr (wd := 8) (k := k) (i := 7 - (k : Int)) (by omega) hk' (by decide))) ?_
      refine gp zib ?_
      refine gl_stY (l := (beN (mx0 c) 8).take k ++ List.replicate (64 - k) 0) k (by simp; omega) (slot_step hk') ?_
      refine gl_nil ?_
      refine gx_block_normal ?_
      refine gx_then ?_
      refine gc_region ?_
      refine gp zad ?_
      refine gp zmv ?_
      refine gl_nil ?_
      refine zrd (k + 1) ?_ ?_
      · show 8 - (k + 1) < 8 - k
        omega
      · exact zlp (show k + 1 ≤ 8 by omega)
    · try simp only at hc12
      have hk' : k = 8 := by omega
      subst hk'
      refine gc_eqc (g := b5) (cs' := (beN (mx0 c) 8 ++ List.replicate 56 0).map B8) (by repeat (first | exact Pick.here | apply Pick.there)) (by rw [List.take_of_length_le (by omega)]) ?_
      refine gc_exit ?_
      refine gx_then_exit ?_
      refine gx_round_exit ?_
      refine gx_block_hit ?_
      refine gx_then ?_
      refine gc_seq ?_
      refine gc_regionT 6 (by kernel_rfl) (by kernel_rfl) ?_
      refine sp (r_slice_arr (l := 9) (h := 40) rfl Ty.arr_37 Ty.sz_5 ⟨_, rfl⟩ ⟨_, rfl⟩ (by omega) (by omega) (by omega)) ?_
      refine sp zmv ?_
      refine sp zmv ?_
      refine sp zln ?_
      refine sp (r_int (j := (((r.take 31).length : Nat) : Int)) r_min (by split <;> omega)) ?_
      refine sp (r_slice_slice (a := a) (m := n) (c := cc) (l := 0) (h := (r.take 31).length) rfl Ty.sl_32 Ty.sz_5 rfl ⟨_, rfl⟩ (Nat.zero_le _) (by omega)) ?_
      refine gs_nil ?_
      refine gl_copy (news := (r.take 31).map B8) (hr := fun w' hw => hw.rdOld hrow) (hj := by omega) (h1 := one_B8 _) (hl := by simp; omega) (k := ?_)
      refine gl_eqc (cs' := (updY 9 (r.take 31) (beN (mx0 c) 8 ++ List.replicate 56 0)).map B8) (by repeat (first | exact Pick.here | apply Pick.there)) (updL_updY 9 _ _) ?_
      refine gp zas ?_
      refine gnt ?_
      refine gsr ?_
      refine gp zmv ?_
      refine gp (r_val zci (conv_len (m := (r.take 31).length) (by omega))) ?_
      refine gp zib ?_
      refine gl_stY (l := (updY 9 (r.take 31) (beN (mx0 c) 8 ++ List.replicate 56 0))) (v := UInt8.ofNat (r.take 31).length) 8 (by simp [updY]; omega) rfl ?_
      refine gnt ?_
      refine gsr ?_
      refine gp (r_slice_arr (l := 0) (h := 40) rfl Ty.arr_37 Ty.sz_5 rfl ⟨_, rfl⟩ (by omega) (by omega) (by omega)) ?_
      refine ze1 fun b34 => ?_
      refine zc (fun _ => ?_) (c := fun w1 F1 F2 h1 h2 hd hst => of_ok (dom := 5) (parts := [body7 (mx0 c) (r.take 31)]) h1 (hK.mv hst.still) (RdList.single (rd_row (xs := [.slice (some ⟨b5, 0 + 0 * 1, none⟩) (40 - 0) (64 - 0)]) h2 hd (by repeat (first | exact Pick.here | apply Pick.there))) ⟨_, _, _, rfl, by decide, (by have hx := rd_blkY (l := ((updY 9 (r.take 31) (beN (mx0 c) 8 ++ List.replicate 56 0)).set 8 (UInt8.ofNat (r.take 31).length))) (o := 0) (m := 40) h2 hd (by repeat (first | exact Pick.here | apply Pick.there)) (by simp [updY]; omega) (by decide); rw [slot_body hm31] at hx; exact hx)⟩) (by simp only [pcost, List.map_cons, List.map_nil, List.sum_cons, List.sum_nil, body7_len hm31]; omega))
      refine zal fun b8 => ?_
      refine zsN ?_
      refine gnt ?_
      refine gc_seq ?_
      refine gc_regionT 2 (by kernel_rfl) (by kernel_rfl) ?_
      refine sp (r_slice_arr (l := 40) (h := 64) rfl Ty.arr_37 Ty.sz_5 ⟨_, rfl⟩ rfl (by omega) (by omega) (by omega)) ?_
      refine sp (r_slice_arr (l := 0) (h := 16) rfl Ty.arr_69 Ty.sz_5 rfl rfl (by omega) (by omega) (by omega)) ?_
      refine gs_nil ?_
      refine gl_copy (news := (sum7 (mx0 c) (r.take 31)).map B8) (hr := fun w' hw => (by have hx := hw.rdBlkY (l := sum7 (mx0 c) (r.take 31)) (o := 0) (m := 16) (by repeat (first | exact Pick.here | apply Pick.there)) (by rw [sum7_len]; omega) (by decide); rw [List.drop_zero, List.take_of_length_le (by rw [sum7_len]; omega)] at hx; exact hx)) (hj := by omega) (h1 := one_B8 _) (hl := by simp [updY]; omega) (k := ?_)
      refine gl_eqc (cs' := sc (slotS c r)) (by repeat (first | exact Pick.here | apply Pick.there)) ((updL_updY 40 _ _).trans (congrArg (List.map B8) (slot_build hm31))) ?_
      refine gnt ?_
      refine gsr ?_
      refine gp (zL (sg := sc (slotS c r))) ?_
      refine zsA (new := sc (slotS c r)) (sc_length _) (sc_one _) ?_
      refine gnt ?_
      refine gc_ret ?_
      refine gx_retc rfl rfl (ld_aggS Ty.row_37 Ty.sz_37 (by repeat (first | exact Pick.here | apply Pick.there)) (by (simp only [List.drop_succ_cons, List.drop_zero, List.take_succ_cons, List.take_zero, List.cons_append, List.nil_append, List.append_assoc, drop_dc, drop_dc', take_dc, take_dc', drop_L, drop_L', take_L, take_L', len_L, Nat.reduceLeDiff, Nat.reduceSub, Nat.reduceAdd, Nat.le_refl, List.length_cons, List.length_append, List.length_nil, dc_length, List.drop_nil, List.take_nil, List.append_nil, List.length_map, List.length_replicate]; first | done | rfl)) (by first | rfl | (simp only [List.drop_succ_cons, List.drop_zero, List.take_succ_cons, List.take_zero, List.cons_append, List.nil_append, List.append_assoc, drop_dc, drop_dc', take_dc, take_dc', drop_L, drop_L', take_L, take_L', len_L, Nat.reduceLeDiff, Nat.reduceSub, Nat.reduceAdd, Nat.le_refl, List.length_cons, List.length_append, List.length_nil, dc_length, List.drop_nil, List.take_nil, List.append_nil, List.length_map, List.length_replicate]; first | done | omega))) ?_
      exact ze ()

set_option maxHeartbeats 400000 in
theorem right_ok {w : World} {F : Nat → Prop} {g : Nat} {d : DS} (h : stars [DiskR g d] w F) (hk : DOk d) {i : Int} :
    Calls Tryd.prog 26 #[.pointer (some ⟨g, 0, none⟩), .int .i64 i] w (Post w F (fun _ : Unit => .bool (decide (0 ≤ i) && decide (i < (d.n : Int) - 1))) (fun _ => [DiskR g d])) := by
  have hn4 := hk.n
  refine g_enter (env := [(0, .pointer (some ⟨g, 0, none⟩)), (1, .int .i64 i)]) Tryd.func26 rfl h Tryd.ntmps26 rfl rfl ?_
  refine gsr ?_
  refine gp zas ?_
  refine gnt ?_
  refine gc_seq ?_
  by_cases hi : 0 ≤ i
  · refine gc_region ?_
    refine gp zmv ?_
    refine gp (r_bool (c := true) zge (decide_eq_true hi)) ?_
    refine gp zmv ?_
    refine gq zmv ?_
    refine gq zmv ?_
    refine zc (fun _ => ?_) (c := fun w1 F1 F2 h1 h2 hd hst => size_ok h1)
    refine gq zsb ?_
    refine gq zlt ?_
    refine gp zpk ?_
    refine gp zas ?_
    refine gnt ?_
    refine gc_ret ?_
    refine gx_ret1 rfl (by conv => lhs; whnf) ?_
    exact fun w' hw => ⟨(), by rw [decide_eq_true hi, Bool.true_and], hw.sel (by repeat (first | exact Sel.nil | (apply Sel.cons; · (repeat (first | exact Pick.here | apply Pick.there)))))⟩
  · refine gc_region ?_
    refine gp zmv ?_
    refine gp (r_bool (c := false) zge (decide_eq_false hi)) ?_
    refine gp zmv ?_
    refine gn ?_
    refine gn ?_
    refine gn ?_
    refine gn ?_
    refine gn ?_
    refine gp zpk ?_
    refine gp zas ?_
    refine gnt ?_
    refine gc_ret ?_
    refine gx_ret1 rfl (by conv => lhs; whnf) ?_
    exact fun w' hw => ⟨(), by rw [decide_eq_false hi, Bool.false_and], hw.sel (by repeat (first | exact Sel.nil | (apply Sel.cons; · (repeat (first | exact Pick.here | apply Pick.there)))))⟩

end Go.Proofs.YtffkjjakceojfaaDoor

/- Walks, by program (wg.py) out of a spec. -/
namespace Go.Proofs.YtffkjjakceojfaaDoor
open Go
set_option linter.unusedVariables false
set_option linter.unusedSimpArgs false

attribute [local irreducible] Gl Gc Gx Gs Runs Wt

set_option maxHeartbeats 400000 in
theorem read_some {w : World} {F : Nat → Prop} {s : Sec} {p : Nat} (h : stars [] w F) (hK : KR w (fun k => ¬ F k)) {c : Nat} {r : List UInt8} (hS : rdSlot s p = some (c, r)) :
    Calls Tryd.prog 32 #[scV s, .int .i64 (p : Int)] w (Post w F (fun x : Option Addr × Nat => .tuple #[.int .i64 (c : Int), .slice x.1 r.length x.2, .bool true]) (fun x => [rowR 5 1 x.1 r.length x.2 (r.map B8)])) := by
  obtain ⟨hcc, hrr, hc63, hpar, hl31, hsl7, hlr⟩ := rdSlot_some hS
  have e9 : 9 + lenS s - 9 = r.length := by omega
  refine g_enter (env := [(0, scV s), (1, .int .i64 (p : Int))]) Tryd.func32 rfl h Tryd.ntmps32 rfl rfl ?_
  refine gsr ?_
  refine zbN fun b2 => ?_
  refine gp zas ?_
  refine gp zas ?_
  refine gp zas ?_
  refine gnt ?_
  refine gsr ?_
  refine gp zas ?_
  refine gnt ?_
  refine gc_seq ?_
  refine gsr ?_
  refine gp (r_slice_arr (l := 0) (h := 8) rfl Ty.arr_37 Ty.sz_5 rfl ⟨_, rfl⟩ (by omega) (by omega) (by omega)) ?_
  refine gp zln ?_
  refine gp zmv ?_
  refine gnt ?_
  refine gc_block ?_
  refine gc_loop (α := Nat) (fun k => [pureR (k ≤ 8), blk b2 37 (sc s)]) (fun k => [(13, .int .i64 (k : Int)), (7, .int .i64 (IntKind.i64.wrap ((valN (s.l.take k) : Nat) : Int)))]) [9, 14, 15, 16, 17, 18, 19, 20, 21, 22] (fun k => 8 - k) 0 ?_ ?_ ?_
  · refine env_start (by kernel_rfl)
  · exact zlp (Nat.zero_le _)
  · intro k u
    refine gc_pureR (fun hk => ?_)
    replace hk : k ≤ 8 := hk
    refine gsr ?_
    refine gp zlt ?_
    refine gnt ?_
    refine gc_seq ?_
    refine gif rfl (fun hc14 => ?_) (fun hc14 => ?_)
    · try simp only at hc14
      have hk' : k < 8 := by omega
      have hb := (s.l.getD k 0).toNat_lt
      have hsl := s.h
      refine gc_skip ?_
      refine gx_then ?_
      refine gc_seq ?_
      refine gc_block ?_
      refine gsr ?_
      refine gp zia ?_
      refine gp (r_ldY (l := s.l) k (by omega)) ?_
      refine gp zas ?_
      refine gnt ?_
      refine gc_region ?_
      refine gp zmv ?_
      refine gp (r_int (j := IntKind.i64.wrap ((valN (s.l.take k) * 256 : Nat) : Int)) zhl shl8) ?_
      refine gp zmv ?_
      refine gp (r_int (j := ((s.l.getD k 0).toNat : Int)) zci (wrap_i64 (by omega) (by omega))) ?_
      refine gp (r_int (j := IntKind.i64.wrap ((valN (s.l.take (k + 1)) : Nat) : Int)) zbt ((orW (valN_lt7 hk')).trans (by rw [take_snoc' (by omega), valN_snoc]))) ?_
      refine gp zas ?_
      refine gl_nil ?_
      refine gx_block_normal ?_
      refine gx_then ?_
      refine gc_region ?_
      refine gp zad ?_
      refine gp zmv ?_
      refine gl_nil ?_
      refine zrd (k + 1) ?_ ?_
      · show 8 - (k + 1) < 8 - k
        omega
      · exact zlp (show k + 1 ≤ 8 by omega)
    · try simp only at hc14
      have hk' : k = 8 := by omega
      subst hk'
      have hsl := s.h
      have hn0 := (s.l.getD 8 0).toNat_lt
      have hl255 : lenS s < 256 := hn0
      have hw8 : IntKind.i64.wrap ((valN (s.l.take 8) : Nat) : Int) = (c : Int) := by rw [show valN (s.l.take 8) = c from hcc.symm]; exact wrap_i64 (by omega) (by omega)
      refine gc_exit ?_
      refine gx_then_exit ?_
      refine gx_round_exit ?_
      refine gx_block_hit ?_
      refine gx_then ?_
      refine gsr ?_
      refine gp zib ?_
      refine gp (r_ldY (l := s.l) 8 (by omega)) ?_
      refine gp (r_int (j := ((lenS s : Nat) : Int)) zci (wrap_i64 (by omega) (by omega))) ?_
      refine gp zas ?_
      refine gnt ?_
      refine gc_seq ?_
      refine gc_seq ?_
      refine gc_regionH ([blk b2 37 (sc s)]) ?_
      refine yp 0 rfl (r_int (j := (c : Int)) (zmv rfl) hw8) ?_
      refine yp 1 rfl (r_bool (c := false) zlt (decide_eq_false (by omega))) ?_
      refine yp 2 rfl zmv ?_
      refine yp 3 rfl (r_int (j := (c : Int)) (zmv rfl) hw8) ?_
      refine yp 4 rfl (r_int (j := ((c % 2 : Nat) : Int)) zrm rfl) ?_
      refine yp 5 rfl zmv ?_
      refine yp 6 rfl (r_bool (c := false) zni (by rw [hpar]; simp)) ?_
      refine yp 7 rfl zpk ?_
      refine yp 8 rfl zmv ?_
      refine yp 9 rfl zmv ?_
      refine yp 10 rfl (r_bool (c := false) zgt (decide_eq_false (by omega))) ?_
      refine yp 11 rfl zpk ?_
      refine yp 12 rfl zmv ?_
      refine yp 13 rfl (r_int (j := (c : Int)) (zmv rfl) hw8) ?_
      refine yp 14 rfl zmv ?_
      refine yp 15 rfl (r_int (j := ((9 + lenS s : Nat) : Int)) zad (by omega)) ?_
      refine yp 16 rfl (r_val (r_slice_arr (l := 9) (h := 9 + lenS s) rfl Ty.arr_37 Ty.sz_5 ⟨_, rfl⟩ ⟨_, rfl⟩ (by omega) (by omega) (by omega)) (by rw [e9])) ?_
      refine yp 18 rfl (zL (sg := sc s)) ?_
      refine yo 17 rfl ?_
      refine zc (fun _ => ?_) (c := fun w1 F1 F2 h1 h2 hd hst => slot_ok (c := (c : Int)) (r := r) (n := (r).length) h1 (hK.mv hst.still) (by have hx := rd_blkY (l := s.l) (o := 9) (m := lenS s) h2 hd (by repeat (first | exact Pick.here | apply Pick.there)) (by omega) (by simp only [maxLen]; omega); rw [show ((s.l.drop 9).take (lenS s)) = recS s from rfl] at hx; rw [← hrr, ← hlr] at hx; exact hx) (by omega))
      refine yx ?_
      refine yp 19 rfl (r_bool (c := false) (r_neq_sec (a := slotS c r) (b := s) Ty.arr_37 Ty.un_5 Ty.sz_5 (by kernel_rfl)) (by rw [hsl7]; simp)) ?_
      refine yp 20 rfl zpk ?_
      refine yd ?_
      refine gx_then ?_
      refine gc_condF rfl rfl ?_
      refine gc_skip ?_
      refine gx_then ?_
      refine gsr ?_
      refine gp (r_int (j := (c : Int)) (zmv rfl) hw8) ?_
      refine gp zmv ?_
      refine gp (r_int (j := ((9 + lenS s : Nat) : Int)) zad (by omega)) ?_
      refine gp (r_val (r_slice_arr (l := 9) (h := 9 + lenS s) rfl Ty.arr_37 Ty.sz_5 ⟨_, rfl⟩ ⟨_, rfl⟩ (by omega) (by omega) (by omega)) (by rw [e9])) ?_
      refine zc (fun x51 => ?_) (c := fun w1 F1 F2 h1 h2 hd hst => cloneBytes_ok (n := r.length) (xs := r.map B8) h1 (by have hx := rd_blkY (l := s.l) (o := 9) (m := lenS s) h2 hd (by repeat (first | exact Pick.here | apply Pick.there)) (by omega) (by simp only [maxLen]; omega); rw [show ((s.l.drop 9).take (lenS s)) = recS s from rfl, ← hrr, ← hlr] at hx; exact hx) (one_B8 _) (by omega))
      refine gp zas ?_
      refine gp zas ?_
      refine gp zas ?_
      refine gnt ?_
      refine gc_ret ?_
      refine gx_ret3 rfl (by conv => lhs; whnf) (by conv => lhs; whnf) (by conv => lhs; whnf) ?_
      exact ze x51

set_option maxHeartbeats 400000 in
theorem read_none {w : World} {F : Nat → Prop} {s : Sec} {p : Nat} (h : stars [] w F) (hK : KR w (fun k => ¬ F k)) (hS : rdSlot s p = none) :
    Calls Tryd.prog 32 #[scV s, .int .i64 (p : Int)] w (Post w F (fun _ : Unit => .tuple #[.int .i64 0, .slice none 0 0, .bool false]) (fun _ => [])) := by
  have hcl := cntS_lt s
  refine g_enter (env := [(0, scV s), (1, .int .i64 (p : Int))]) Tryd.func32 rfl h Tryd.ntmps32 rfl rfl ?_
  refine gsr ?_
  refine zbN fun b2 => ?_
  refine gp zas ?_
  refine gp zas ?_
  refine gp zas ?_
  refine gnt ?_
  refine gsr ?_
  refine gp zas ?_
  refine gnt ?_
  refine gc_seq ?_
  refine gsr ?_
  refine gp (r_slice_arr (l := 0) (h := 8) rfl Ty.arr_37 Ty.sz_5 rfl ⟨_, rfl⟩ (by omega) (by omega) (by omega)) ?_
  refine gp zln ?_
  refine gp zmv ?_
  refine gnt ?_
  refine gc_block ?_
  refine gc_loop (α := Nat) (fun k => [pureR (k ≤ 8), blk b2 37 (sc s)]) (fun k => [(13, .int .i64 (k : Int)), (7, .int .i64 (IntKind.i64.wrap ((valN (s.l.take k) : Nat) : Int)))]) [9, 14, 15, 16, 17, 18, 19, 20, 21, 22] (fun k => 8 - k) 0 ?_ ?_ ?_
  · refine env_start (by kernel_rfl)
  · exact zlp (Nat.zero_le _)
  · intro k u
    refine gc_pureR (fun hk => ?_)
    replace hk : k ≤ 8 := hk
    refine gsr ?_
    refine gp zlt ?_
    refine gnt ?_
    refine gc_seq ?_
    refine gif rfl (fun hc14 => ?_) (fun hc14 => ?_)
    · try simp only at hc14
      have hk' : k < 8 := by omega
      have hb := (s.l.getD k 0).toNat_lt
      have hsl := s.h
      refine gc_skip ?_
      refine gx_then ?_
      refine gc_seq ?_
      refine gc_block ?_
      refine gsr ?_
      refine gp zia ?_
      refine gp (r_ldY (l := s.l) k (by omega)) ?_
      refine gp zas ?_
      refine gnt ?_
      refine gc_region ?_
      refine gp zmv ?_
      refine gp (r_int (j := IntKind.i64.wrap ((valN (s.l.take k) * 256 : Nat) : Int)) zhl shl8) ?_
      refine gp zmv ?_
      refine gp (r_int (j := ((s.l.getD k 0).toNat : Int)) zci (wrap_i64 (by omega) (by omega))) ?_
      refine gp (r_int (j := IntKind.i64.wrap ((valN (s.l.take (k + 1)) : Nat) : Int)) zbt ((orW (valN_lt7 hk')).trans (by rw [take_snoc' (by omega), valN_snoc]))) ?_
      refine gp zas ?_
      refine gl_nil ?_
      refine gx_block_normal ?_
      refine gx_then ?_
      refine gc_region ?_
      refine gp zad ?_
      refine gp zmv ?_
      refine gl_nil ?_
      refine zrd (k + 1) ?_ ?_
      · show 8 - (k + 1) < 8 - k
        omega
      · exact zlp (show k + 1 ≤ 8 by omega)
    · try simp only at hc14
      have hk' : k = 8 := by omega
      subst hk'
      have hsl := s.h
      have hn0 := (s.l.getD 8 0).toNat_lt
      have hl255 : lenS s < 256 := hn0
      refine gc_exit ?_
      refine gx_then_exit ?_
      refine gx_round_exit ?_
      refine gx_block_hit ?_
      refine gx_then ?_
      refine gsr ?_
      refine gp zib ?_
      refine gp (r_ldY (l := s.l) 8 (by omega)) ?_
      refine gp (r_int (j := ((lenS s : Nat) : Int)) zci (wrap_i64 (by omega) (by omega))) ?_
      refine gp zas ?_
      refine gnt ?_
      refine gc_seq ?_
      refine gc_seq ?_
      by_cases h63 : 9223372036854775808 ≤ cntS s
      · refine gc_regionH ([blk b2 37 (sc s)]) ?_
        refine yp 0 rfl zmv ?_
        refine yp 1 rfl (r_bool (c := true) zlt (decide_eq_true (wrap_big (x := cntS s) h63 hcl))) ?_
        refine yp 2 rfl zmv ?_
        refine yn 3 rfl ?_
        refine yn 4 rfl ?_
        refine yn 5 rfl ?_
        refine yn 6 rfl ?_
        refine yp 7 rfl zpk ?_
        refine yp 8 rfl zmv ?_
        refine yn 9 rfl ?_
        refine yn 10 rfl ?_
        refine yp 11 rfl zpk ?_
        refine yp 12 rfl zmv ?_
        refine yn 13 rfl ?_
        refine yn 14 rfl ?_
        refine yn 15 rfl ?_
        refine yn 16 rfl ?_
        refine yn 17 rfl ?_
        refine yn 18 rfl ?_
        refine yn 19 rfl ?_
        refine yp 20 rfl zpk ?_
        refine yd ?_
        refine gx_then ?_
        refine gc_condT rfl rfl ?_
        refine gsr ?_
        refine gp zas ?_
        refine gp zas ?_
        refine gp zas ?_
        refine gnt ?_
        refine gc_ret ?_
        refine gx_then_ret ?_
        refine gx_ret3 rfl (by conv => lhs; whnf) (by conv => lhs; whnf) (by conv => lhs; whnf) ?_
        exact ze ()
      · have hw8 : IntKind.i64.wrap ((valN (s.l.take 8) : Nat) : Int) = (cntS s : Int) := wrap_i64 (by omega) (by have : valN (s.l.take 8) = cntS s := rfl; omega)
        by_cases hpar : cntS s % 2 = p
        · by_cases hl31 : 31 < lenS s
          · refine gc_regionH ([blk b2 37 (sc s)]) ?_
            refine yp 0 rfl (r_int (j := (cntS s : Int)) (zmv rfl) hw8) ?_
            refine yp 1 rfl (r_bool (c := false) zlt (decide_eq_false (by omega))) ?_
            refine yp 2 rfl zmv ?_
            refine yp 3 rfl (r_int (j := (cntS s : Int)) (zmv rfl) hw8) ?_
            refine yp 4 rfl (r_int (j := ((cntS s % 2 : Nat) : Int)) zrm rfl) ?_
            refine yp 5 rfl zmv ?_
            refine yp 6 rfl (r_bool (c := false) zni (by rw [hpar]; simp)) ?_
            refine yp 7 rfl zpk ?_
            refine yp 8 rfl zmv ?_
            refine yp 9 rfl zmv ?_
            refine yp 10 rfl (r_bool (c := true) zgt (decide_eq_true (by omega))) ?_
            refine yp 11 rfl zpk ?_
            refine yp 12 rfl zmv ?_
            refine yn 13 rfl ?_
            refine yn 14 rfl ?_
            refine yn 15 rfl ?_
            refine yn 16 rfl ?_
            refine yn 17 rfl ?_
            refine yn 18 rfl ?_
            refine yn 19 rfl ?_
            refine yp 20 rfl zpk ?_
            refine yd ?_
            refine gx_then ?_
            refine gc_condT rfl rfl ?_
            refine gsr ?_
            refine gp zas ?_
            refine gp zas ?_
            refine gp zas ?_
            refine gnt ?_
            refine gc_ret ?_
            refine gx_then_ret ?_
            refine gx_ret3 rfl (by conv => lhs; whnf) (by conv => lhs; whnf) (by conv => lhs; whnf) ?_
            exact ze ()
          · have hlr := recS_len (s := s) (by omega)
            have e9 : 9 + lenS s - 9 = (recS s).length := by omega
            have hne : slotS (cntS s) (recS s) ≠ s := fun e => by rw [rdSlot, if_pos ⟨by omega, hpar, by omega, e⟩] at hS; cases hS
            refine gc_regionH ([blk b2 37 (sc s)]) ?_
            refine yp 0 rfl (r_int (j := (cntS s : Int)) (zmv rfl) hw8) ?_
            refine yp 1 rfl (r_bool (c := false) zlt (decide_eq_false (by omega))) ?_
            refine yp 2 rfl zmv ?_
            refine yp 3 rfl (r_int (j := (cntS s : Int)) (zmv rfl) hw8) ?_
            refine yp 4 rfl (r_int (j := ((cntS s % 2 : Nat) : Int)) zrm rfl) ?_
            refine yp 5 rfl zmv ?_
            refine yp 6 rfl (r_bool (c := false) zni (by rw [hpar]; simp)) ?_
            refine yp 7 rfl zpk ?_
            refine yp 8 rfl zmv ?_
            refine yp 9 rfl zmv ?_
            refine yp 10 rfl (r_bool (c := false) zgt (decide_eq_false (by omega))) ?_
            refine yp 11 rfl zpk ?_
            refine yp 12 rfl zmv ?_
            refine yp 13 rfl (r_int (j := (cntS s : Int)) (zmv rfl) hw8) ?_
            refine yp 14 rfl zmv ?_
            refine yp 15 rfl (r_int (j := ((9 + lenS s : Nat) : Int)) zad (by omega)) ?_
            refine yp 16 rfl (r_val (r_slice_arr (l := 9) (h := 9 + lenS s) rfl Ty.arr_37 Ty.sz_5 ⟨_, rfl⟩ ⟨_, rfl⟩ (by omega) (by omega) (by omega)) (by rw [e9])) ?_
            refine yp 18 rfl (zL (sg := sc s)) ?_
            refine yo 17 rfl ?_
            refine zc (fun _ => ?_) (c := fun w1 F1 F2 h1 h2 hd hst => slot_ok (c := (cntS s : Int)) (r := recS s) (n := (recS s).length) h1 (hK.mv hst.still) (by have hx := rd_blkY (l := s.l) (o := 9) (m := lenS s) h2 hd (by repeat (first | exact Pick.here | apply Pick.there)) (by omega) (by simp only [maxLen]; omega); rw [show ((s.l.drop 9).take (lenS s)) = recS s from rfl] at hx; rw [← hlr] at hx; exact hx) (by omega))
            refine yx ?_
            refine yp 19 rfl (r_bool (c := true) (r_neq_sec (a := slotS (cntS s) (recS s)) (b := s) Ty.arr_37 Ty.un_5 Ty.sz_5 (by kernel_rfl)) (by simp [hne])) ?_
            refine yp 20 rfl zpk ?_
            refine yd ?_
            refine gx_then ?_
            refine gc_condT rfl rfl ?_
            refine gsr ?_
            refine gp zas ?_
            refine gp zas ?_
            refine gp zas ?_
            refine gnt ?_
            refine gc_ret ?_
            refine gx_then_ret ?_
            refine gx_ret3 rfl (by conv => lhs; whnf) (by conv => lhs; whnf) (by conv => lhs; whnf) ?_
            exact ze ()
        · refine gc_regionH ([blk b2 37 (sc s)]) ?_
          refine yp 0 rfl (r_int (j := (cntS s : Int)) (zmv rfl) hw8) ?_
          refine yp 1 rfl (r_bool (c := false) zlt (decide_eq_false (by omega))) ?_
          refine yp 2 rfl zmv ?_
          refine yp 3 rfl (r_int (j := (cntS s : Int)) (zmv rfl) hw8) ?_
          refine yp 4 rfl (r_int (j := ((cntS s % 2 : Nat) : Int)) zrm rfl) ?_
          refine yp 5 rfl zmv ?_
          refine yp 6 rfl (r_bool (c := true) zni (by simp; omega)) ?_
          refine yp 7 rfl zpk ?_
          refine yp 8 rfl zmv ?_
          refine yn 9 rfl ?_
          refine yn 10 rfl ?_
          refine yp 11 rfl zpk ?_
          refine yp 12 rfl zmv ?_
          refine yn 13 rfl ?_
          refine yn 14 rfl ?_
          refine yn 15 rfl ?_
          refine yn 16 rfl ?_
          refine yn 17 rfl ?_
          refine yn 18 rfl ?_
          refine yn 19 rfl ?_
          refine yp 20 rfl zpk ?_
          refine yd ?_
          refine gx_then ?_
          refine gc_condT rfl rfl ?_
          refine gsr ?_
          refine gp zas ?_
          refine gp zas ?_
          refine gp zas ?_
          refine gnt ?_
          refine gc_ret ?_
          refine gx_then_ret ?_
          refine gx_ret3 rfl (by conv => lhs; whnf) (by conv => lhs; whnf) (by conv => lhs; whnf) ?_
          exact ze ()

end Go.Proofs.YtffkjjakceojfaaDoor

/- Plain words on disks, part 3: the laws' scripts. -/
namespace Go.Proofs.YtffkjjakceojfaaDoor
open Go
set_option linter.unusedVariables false
set_option linter.unusedSimpArgs false
theorem oper_calm {d : DS} (h : d.armed = false) : oper d = d := oper_no (.inl h)
theorem wr_calm {d : DS} {i : Int} {v : Sec} (h : d.armed = false) (ho : d.off = false) (hi : d.has i = true) : d.wr i v = (0, d.write i v) := by
  rw [wr_on hi (by rw [oper_calm h]; exact ho), oper_calm h]
theorem syncd_calm {d : DS} (h : d.armed = false) (ho : d.off = false) : d.syncd = d.sync := by rw [DS.syncd, oper_calm h, if_neg (by rw [ho]; decide)]
theorem keepF_nil {ks : List Int} {ws : List (Int × Sec)} {ss : Nat → Sec} : ∀ j, keepF ks [] ws ss j = ss
  | 0 => rfl
  | j + 1 => by rw [keepF_no rfl, keepF_nil j]
theorem crash_idle {d : DS} {kb : List Bool} (h : d.ws = []) : d.crash kb = { d with off := false, armed := false } := by
  obtain ⟨n, ss, ws, off, armed, left⟩ := d
  simp only at h
  subst h
  simp [DS.crash, keysW, sortZ, keepF]
theorem rd_at {d : DS} {i : Int} (hi : d.has i = true) (ho : d.off = false) : d.rd i = (0, d.at i.toNat) := by simp [DS.rd, hi, ho]
/-! ### The chapter's example -/
def aD0 : DS := ⟨2, fun _ => sec0, [], false, false, 0⟩
def aD1 : DS := aD0.write 0 (secOf 1)
def aD2 : DS := aD1.sync
def aD3 : DS := aD2.write 1 (secOf 2)
def aD4 : DS := aD3.crash []
theorem aD0_ok : DOk aD0 := ⟨by decide, by simp [aD0, keysW], by simp [aD0, keysW], (fun h => by cases h), by decide⟩
theorem aD1_ok : DOk aD1 := write_ok aD0_ok (by decide) (by decide)
theorem aD2_ok : DOk aD2 := sync_ok aD1_ok
theorem aD3_ok : DOk aD3 := write_ok aD2_ok (by decide) (by decide)
theorem aD0_wr : aD0.wr 0 (secOf 1) = (0, aD1) := wr_calm rfl rfl rfl
theorem aD1_sync : aD1.syncd = aD2 := syncd_calm rfl rfl
theorem aD1_err : (if (oper aD1).off then 6 else 0) = 0 := by rw [oper_calm rfl]; rfl
theorem aD2_wr : aD2.wr 1 (secOf 2) = (0, aD3) := wr_calm rfl rfl rfl
theorem aD4_0 : aD4.rd 0 = (0, secOf 1) := by
  rw [rd_at rfl rfl]
  show (0, (lookW 0 []).getD (keepF _ [] _ _ _ 0)) = _
  rw [keepF_nil]; rfl
theorem aD4_1 : aD4.rd 1 = (0, sec0) := by
  rw [rd_at rfl rfl]
  show (0, (lookW 1 []).getD (keepF _ [] _ _ _ 1)) = _
  rw [keepF_nil]; rfl
/-! ### One sector, written over and over -/
def dL (ls : List UInt8) (k : Nat) : DS := ⟨3, fun _ => sec0, if k = 0 then [] else [(1, secOf (ls.getD (k - 1) 0))], false, false, 0⟩
theorem dL_ok (ls : List UInt8) (k : Nat) : DOk (dL ls k) := by
  refine ⟨show 3 ≤ 4096 by decide, ?_, ?_, (fun h => by cases h), show (-9223372036854775808 : Int) ≤ 0 ∧ (0 : Int) ≤ 9223372036854775807 by decide⟩
  · by_cases h : k = 0 <;> simp [dL, h, keysW]
  · intro i hi
    by_cases h : k = 0 <;> simp [dL, h, keysW] at hi ⊢
    subst hi; decide
theorem dL_zero (ls : List UInt8) : (⟨3, fun _ => sec0, [], false, false, 0⟩ : DS) = dL ls 0 := rfl
theorem dL_wr (ls : List UInt8) (k : Nat) : (dL ls k).wr 1 (secOf (ls.getD k 0)) = (0, dL ls (k + 1)) := by
  rw [wr_calm rfl rfl rfl]
  by_cases h : k = 0
  · subst h; rfl
  · simp [dL, h, DS.write, putW]
theorem dL_rd (ls : List UInt8) (k : Nat) : (dL ls (k + 1)).rd 1 = (0, secOf (ls.getD k 0)) := rfl
def dS (sy : Bool) (ls : List UInt8) : DS := if sy = true then (dL ls ls.length).syncd else dL ls ls.length
theorem dS_ok (sy : Bool) (ls : List UInt8) : DOk (dS sy ls) := by
  unfold dS; split
  · exact syncd_ok (dL_ok _ _)
  · exact dL_ok _ _
theorem dL_err (ls : List UInt8) (k : Nat) : (if (oper (dL ls k)).off then 6 else 0) = 0 := by rw [oper_calm rfl]; rfl
def lastS (sy : Bool) (kb : List Bool) (ls : List UInt8) : Sec := if sy = true ∨ kb.getD 0 false = true then secOf (ls.getD (ls.length - 1) 0) else sec0
theorem dS_rd (sy : Bool) {kb : List Bool} {ls : List UInt8} (h : 1 ≤ ls.length) : ((dS sy ls).crash kb).rd 1 = (0, lastS sy kb ls) := by
  cases sy with
  | true =>
    have e : (dS true ls).crash kb = (dL ls ls.length).sync := by
      rw [dS, if_pos rfl, syncd_calm rfl rfl, crash_idle rfl]; rfl
    rw [e, rd_at rfl rfl, lastS, if_pos (.inl rfl)]
    have h0 : ls.length ≠ 0 := by omega
    simp [DS.at, DS.sync, dL, lookW, h0]
  | false =>
    have h0 : ls.length ≠ 0 := by omega
    have e : dS false ls = dL ls ls.length := by rw [dS, if_neg (by decide)]
    have ew : (dL ls ls.length).ws = [(1, secOf (ls.getD (ls.length - 1) 0))] := by simp [dL, h0]
    have ek : sortZ (keysW [((1 : Int), secOf (ls.getD (ls.length - 1) 0))]) = [1] := by simp [keysW, sortZ]
    rw [e, rd_at rfl rfl]
    show (0, (lookW 1 []).getD ((dL ls ls.length).crash kb |>.ss 1)) = _
    simp only [DS.crash, ew, ek, List.length_singleton, lookW, Option.getD_none, lastS]
    cases hk : kb.getD 0 false with
    | true => rw [keepF_yes hk]; simp [updS, lookW]
    | false => rw [keepF_no hk]; simp [keepF, dL]
theorem dS_rd2 (sy : Bool) {kb kb2 : List Bool} {ls : List UInt8} (h : 1 ≤ ls.length) : (((dS sy ls).crash kb).crash kb2).rd 1 = (0, lastS sy kb ls) := by
  rw [crash_idle rfl, ← dS_rd sy h]; rfl
/-! ### Sectors, written one by one -/
def wsF (f : Nat → UInt8) (k : Nat) : List (Int × Sec) := (List.range k).map fun (i : Nat) => ((i : Int), secOf (f i))
theorem keys_wsF (f : Nat → UInt8) (k : Nat) : keysW (wsF f k) = (List.range k).map fun (i : Nat) => (i : Int) := by simp [keysW, wsF, Function.comp_def]
theorem putW_new {i : Int} {v : Sec} : ∀ {l : List (Int × Sec)}, i ∉ keysW l → putW i v l = l ++ [(i, v)]
  | [], _ => rfl
  | p :: l, h => by
    simp only [keysW, List.map_cons, List.mem_cons, not_or] at h
    simp only [putW, if_neg h.1, List.cons_append]
    rw [putW_new (l := l) h.2]
theorem put_wsF (f : Nat → UInt8) (k : Nat) : putW (k : Int) (secOf (f k)) (wsF f k) = wsF f (k + 1) := by
  rw [putW_new (by rw [keys_wsF]; simp only [List.mem_map, List.mem_range, not_exists, not_and]; intro x hx; omega), wsF, wsF, List.range_succ, List.map_append]; rfl
theorem wsF_len (f : Nat → UInt8) (k : Nat) : (wsF f k).length = k := by simp [wsF]
theorem nodup_wsF (f : Nat → UInt8) (k : Nat) : (keysW (wsF f k)).Nodup := by
  rw [keys_wsF]
  unfold List.Nodup
  rw [List.pairwise_map]
  exact List.nodup_range.imp fun h e => h (by omega)
theorem look_wsF (f : Nat → UInt8) {k i : Nat} : lookW (i : Int) (wsF f k) = if i < k then some (secOf (f i)) else none := by
  split
  · rename_i h
    exact lookW_mem (nodup_wsF f k) (List.mem_map.2 ⟨i, List.mem_range.2 h, rfl⟩)
  · rename_i h
    exact lookW_none (by rw [keys_wsF]; simp; omega)
theorem sort_wsF (f : Nat → UInt8) (k : Nat) : sortZ (keysW (wsF f k)) = (List.range k).map fun (i : Nat) => (i : Int) := by
  rw [keys_wsF, sortZ]
  refine List.mergeSort_of_pairwise ?_
  rw [List.pairwise_map]
  exact List.pairwise_lt_range.imp fun h => by simp; omega
theorem keep_wsF (f : Nat → UInt8) (kb : List Bool) (ss : Nat → Sec) (k : Nat) (i : Nat) : ∀ j, j ≤ k → keepF ((List.range k).map fun (i : Nat) => (i : Int)) kb (wsF f k) ss j i = if i < j ∧ kb.getD i false = true then secOf (f i) else ss i
  | 0, _ => by simp [keepF]
  | j + 1, h => by
    have ih := keep_wsF f kb ss k i j (by omega)
    have eg : ((List.range k).map fun (i : Nat) => (i : Int)).getD j 0 = (j : Int) := by simp [List.getD, show j < k by omega]
    cases hk : kb.getD j false with
    | true =>
      rw [keepF_yes hk, eg, Int.toNat_natCast, look_wsF, if_pos (show j < k by omega), updS]
      by_cases hi : i = j
      · subst hi; simp only [if_true, Option.getD_some, hk, and_true, Nat.lt_succ_self, if_pos]
      · rw [if_neg hi, ih]
        by_cases hl : i < j
        · simp [hl, show i < j + 1 by omega]
        · simp [hl, show ¬ i < j + 1 by omega]
    | false =>
      rw [keepF_no hk, ih]
      by_cases hi : i = j
      · subst hi; rw [if_neg (by omega), if_neg (by rw [hk]; simp)]
      · by_cases hl : i < j
        · simp [hl, show i < j + 1 by omega]
        · simp [hl, show ¬ i < j + 1 by omega]
theorem DOk.wsF {n : Nat} {ss : Nat → Sec} {f : Nat → UInt8} {k : Nat} {off armed : Bool} {left : Int} (hn : n ≤ 4096) (hk : k ≤ n) (hl : armed = true → off = false → 0 ≤ left) (hr : -9223372036854775808 ≤ left ∧ left ≤ 9223372036854775807) : DOk ⟨n, ss, wsF f k, off, armed, left⟩ :=
  ⟨hn, nodup_wsF f k, fun i hi => by
    simp only [keys_wsF, List.mem_map, List.mem_range] at hi
    obtain ⟨j, hj, rfl⟩ := hi
    exact ⟨by omega, by show (j : Int) < n; omega⟩, hl, hr⟩
/-- n sectors, the first k written. -/
def dK (n : Nat) (ss : Nat → Sec) (f : Nat → UInt8) (k : Nat) : DS := ⟨n, ss, wsF f k, false, false, 0⟩
theorem dK_ok {n : Nat} {ss : Nat → Sec} {f : Nat → UInt8} {k : Nat} (hn : n ≤ 4096) (hk : k ≤ n) : DOk (dK n ss f k) := DOk.wsF hn hk (fun h => by cases h) (by decide)
theorem dK_wr {n : Nat} {ss : Nat → Sec} {f : Nat → UInt8} {k : Nat} (hk : k < n) : (dK n ss f k).wr k (secOf (f k)) = (0, dK n ss f (k + 1)) := by
  rw [wr_calm rfl rfl (has_iff.2 ⟨by omega, by show (k : Int) < n; omega⟩)]
  simp only [DS.write, dK, put_wsF]
def upd1 (f : Nat → UInt8) (k : Nat) (ss : Nat → Sec) (i : Nat) : Sec := if i < k then secOf (f i) else ss i
theorem dK_sync {n : Nat} {ss : Nat → Sec} {f g : Nat → UInt8} {k : Nat} : (dK n ss f k).syncd = dK n (upd1 f k ss) g 0 := by
  rw [syncd_calm rfl rfl]
  simp only [DS.sync, dK, DS.mk.injEq, true_and, and_true]
  refine ⟨?_, rfl⟩
  funext i
  simp only [DS.at, look_wsF, upd1]
  split <;> rfl
theorem dK_err {n : Nat} {ss : Nat → Sec} {f : Nat → UInt8} {k : Nat} : (if (oper (dK n ss f k)).off then 6 else 0) = 0 := by rw [oper_calm rfl]; rfl
theorem dK_rd {n : Nat} {ss : Nat → Sec} {f : Nat → UInt8} {k : Nat} {kb : List Bool} {i : Nat} (hi : i < n) : ((dK n ss f k).crash kb).rd i = (0, if i < k ∧ kb.getD i false = true then secOf (f i) else ss i) := by
  rw [rd_at (has_iff.2 ⟨by omega, by show (i : Int) < n; omega⟩) rfl, Int.toNat_natCast]
  show (0, (lookW i []).getD (keepF (sortZ (keysW (wsF f k))) kb (wsF f k) ss (sortZ (keysW (wsF f k))).length i)) = _
  rw [sort_wsF, List.length_map, List.length_range, keep_wsF f kb ss k i k (Nat.le_refl _)]; rfl
def bF (l : List UInt8) (i : Nat) : UInt8 := l.getD i 0
def keepS (f g : Nat → UInt8) (kb : List Bool) (k j i : Nat) : Sec := if i < j ∧ kb.getD i false = true then secOf (g i) else upd1 f k (fun _ => sec0) i
/-! ### So many operations -/
/-- n sectors, y written one by one; the power lasts l operations; k were begun. -/
def dP (n : Nat) (y : UInt8) (l k : Nat) : DS := if k ≤ l then ⟨n, fun _ => sec0, wsF (fun _ => y) k, false, true, (l : Int) - k⟩ else ⟨n, fun _ => sec0, wsF (fun _ => y) l, true, true, -1⟩
theorem dP_arm (n : Nat) (y : UInt8) (l : Nat) : ({ (⟨n, fun _ => sec0, [], false, false, 0⟩ : DS) with armed := decide (0 ≤ (l : Int)), left := (l : Int) } : DS) = dP n y l 0 := by
  rw [dP, if_pos (Nat.zero_le _)]
  simp [wsF]
theorem dP_ok {n l k : Nat} {y : UInt8} (hn : n ≤ 4096) (hk : min k l ≤ n) (hl : l ≤ 100) : DOk (dP n y l k) := by
  unfold dP; split
  · exact DOk.wsF hn (by omega) (fun _ _ => by omega) (by omega)
  · exact DOk.wsF hn (by omega) (fun _ h => by cases h) (by decide)
theorem dP_off (n : Nat) (y : UInt8) (l k : Nat) : (dP n y l k).off = decide (l < k) := by
  unfold dP; split
  · rename_i h; exact (decide_eq_false (by omega)).symm
  · rename_i h; exact (decide_eq_true (by omega)).symm
theorem dP_len (n : Nat) (y : UInt8) (l k : Nat) : (dP n y l k).ws.length = min l k := by
  unfold dP; split <;> rw [wsF_len] <;> omega
theorem dP_has {n : Nat} {y : UInt8} {l k : Nat} {i : Nat} (hi : i < n) : (dP n y l k).has i = true := has_iff.2 ⟨by omega, by unfold dP; split <;> (show (i : Int) < n; omega)⟩
theorem dP_yes {n : Nat} {y : UInt8} {l k : Nat} (hk : k < n) (hl : k < l) : (dP n y l k).wr k (secOf y) = (0, dP n y l (k + 1)) := by
  have hh := dP_has (n := n) (y := y) (l := l) (k := k) hk
  have ho : oper (dP n y l k) = ⟨n, fun _ => sec0, wsF (fun _ => y) k, false, true, (l : Int) - k - 1⟩ := by
    rw [dP, if_pos (by omega), oper, if_pos ⟨rfl, rfl⟩]
    simp only [DS.mk.injEq, true_and, and_true, decide_eq_false_iff_not]
    omega
  rw [wr_on hh (by rw [ho]), ho, dP, if_pos (by omega)]
  simp only [DS.write, Prod.mk.injEq, DS.mk.injEq, true_and]
  exact ⟨put_wsF (fun _ => y) k, by omega⟩
theorem dP_no {n : Nat} {y : UInt8} {l k : Nat} (hk : k < n) (hl : l ≤ k) : (dP n y l k).wr k (secOf y) = (6, dP n y l (k + 1)) := by
  have hh := dP_has (n := n) (y := y) (l := l) (k := k) hk
  have ho : oper (dP n y l k) = dP n y l (k + 1) := by
    rw [dP, dP, if_neg (show ¬ k + 1 ≤ l by omega)]
    split
    · have : k = l := by omega
      subst this
      rw [oper, if_pos ⟨rfl, rfl⟩]
      simp only [DS.mk.injEq, true_and, decide_eq_true_eq]
      omega
    · exact oper_no (.inr rfl)
  rw [wr_off hh (by rw [ho, dP, if_neg (by omega)]), ho]
end Go.Proofs.YtffkjjakceojfaaDoor

/- Plain words: SHA-256 piece by piece is SHA-256 of the whole. No program in sight. -/
namespace Go.Proofs.YtffkjjakceojfaaDoor
set_option linter.unusedVariables false

def refPad (b : List UInt8) : List UInt8 := b ++ 128 :: (List.replicate (padN b.length) 0 ++ lenBytes b.length)
def refSum (K : Nat → UInt32) (b : List UInt8) : List UInt8 := (List.range 32).map (outByte (takes K v0 (refPad b)).1)
def framed (dom : Int) (parts : List (List UInt8)) : List UInt8 := UInt8.ofNat (dom % 256).toNat :: parts.flatMap fun p => part4 p.length ++ p

theorem takes_append (K : Nat → UInt32) (v : V8) (a b : List UInt8) : takes K v (a ++ b) = takes K (takes K v a).1 ((takes K v a).2 ++ b) := by
  fun_induction takes K v a with
  | case1 v a h ih =>
    rw [takes.eq_1 K v (a ++ b), dif_pos (by simp; omega), List.take_append_of_le_length h, List.drop_append_of_le_length h]
    exact ih
  | case2 v a h => rfl
theorem takes_mod (K : Nat → UInt32) (v : V8) (a : List UInt8) : (takes K v a).2.length % 64 = a.length % 64 := by
  fun_induction takes K v a with
  | case1 v a h ih => rw [ih, List.length_drop]; omega
  | case2 v a h => rfl
/-- What a hash is that was handed all these bytes. -/
def HAll (K : Nat → UInt32) (s : HS) (b : List UInt8) : Prop := takes K v0 b = (s.v, s.rest) ∧ s.len = b.length
theorem HAll.nil (K : Nat → UInt32) : HAll K hs0 [] := ⟨by rw [takes.eq_1, dif_neg (by simp)]; rfl, rfl⟩
theorem HAll.write {K : Nat → UInt32} {s : HS} {a : List UInt8} (h : HAll K s a) (b : List UInt8) : HAll K (hWrite K s b) (a ++ b) := by
  refine ⟨?_, ?_⟩
  · rw [takes_append, h.1]; rfl
  · simp [hWrite, h.2]
theorem HAll.sum {K : Nat → UInt32} {s : HS} {a : List UInt8} (h : HAll K s a) : hSum K s = refSum K a := by
  have hm : padN s.rest.length = padN a.length := by
    have e : s.rest.length % 64 = a.length % 64 := by
      have := takes_mod K v0 a
      rw [h.1] at this
      exact this
    unfold padN; rw [e]
  have e : takes K s.v (padded s) = takes K v0 (refPad a) := by
    rw [refPad, takes_append, h.1, padded, hm, h.2]
  rw [hSum, refSum, e]
theorem hOf_ref (K : Nat → UInt32) (dom : Int) (parts : List (List UInt8)) : hOf K dom parts = (refSum K (framed dom parts)).take 16 := by
  have h : ∀ (l : List (List UInt8)) (s : HS) (a : List UInt8), HAll K s a → HAll K (l.foldl (fun s p => hWrite K (hWrite K s (part4 p.length)) p) s) (a ++ l.flatMap fun p => part4 p.length ++ p) := by
    intro l
    induction l with
    | nil => intro s a h; simpa using h
    | cons p l ih =>
      intro s a h
      have := ih _ _ ((h.write (part4 p.length)).write p)
      simpa using this
  have := (h parts _ _ ((HAll.nil K).write [UInt8.ofNat (dom % 256).toNat])).sum
  rw [hOf, this]
  simp [framed]
end Go.Proofs.YtffkjjakceojfaaDoor

/- Plain words: the hash of an empty slot isn't zero: SHA-256's rounds in natural numbers. -/
namespace Go.Proofs.YtffkjjakceojfaaDoor
open Go
set_option linter.unusedVariables false
set_option linter.unusedSimpArgs false
namespace ZN
def M : Nat := 4294967296
def rot (x n : Nat) : Nat := (x <<< (32 - n)) % M ||| x >>> n
def s0 (x : Nat) : Nat := rot x 7 ^^^ rot x 18 ^^^ x >>> 3
def s1 (x : Nat) : Nat := rot x 17 ^^^ rot x 19 ^^^ x >>> 10
/-- The schedule, newest first. -/
def step (l : List Nat) : List Nat := ((((l.getD 15 0 + s0 (l.getD 14 0)) % M + l.getD 6 0) % M + s1 (l.getD 1 0)) % M) :: l
def rounds : List Nat → List Nat → Nat → Nat → Nat → Nat → Nat → Nat → Nat → Nat → Nat
  | k :: ks, w :: ws, a, b, c, d, e, f, g, h =>
    let one := ((((h + (rot e 6 ^^^ rot e 11 ^^^ rot e 25)) % M + ((e &&& f) ^^^ ((4294967295 - e) &&& g))) % M + k) % M + w) % M
    let two := ((rot a 2 ^^^ rot a 13 ^^^ rot a 22) + (((a &&& b) ^^^ (a &&& c)) ^^^ (b &&& c))) % M
    rounds ks ws ((one + two) % M) a b c ((d + one) % M) e f g
  | _, _, a, _, _, _, _, _, _, _ => a
end ZN
theorem rotr_nat {x : UInt32} {n : Nat} (h1 : 1 ≤ n) (h2 : n ≤ 31) : (rotr x n).toNat = ZN.rot x.toNat n := by
  have e1 : (UInt32.ofNat (32 - n)).toNat % 32 = 32 - n := by rw [UInt32.toNat_ofNat']; omega
  have e2 : (UInt32.ofNat n).toNat % 32 = n := by rw [UInt32.toNat_ofNat']; omega
  rw [rotr, UInt32.toNat_or, UInt32.toNat_shiftLeft, UInt32.toNat_shiftRight, e1, e2]; rfl
theorem sg0_nat (x : UInt32) : (sg0 x).toNat = ZN.s0 x.toNat := by
  rw [sg0, UInt32.toNat_xor, UInt32.toNat_xor, rotr_nat (by decide) (by decide), rotr_nat (by decide) (by decide), UInt32.toNat_shiftRight]; rfl
theorem sg1_nat (x : UInt32) : (sg1 x).toNat = ZN.s1 x.toNat := by
  rw [sg1, UInt32.toNat_xor, UInt32.toNat_xor, rotr_nat (by decide) (by decide), rotr_nat (by decide) (by decide), UInt32.toNat_shiftRight]; rfl
/-- The first k words, newest first. -/
def schs (b : List UInt8) (k : Nat) : List Nat := ((List.range k).map fun i => (sch b i).toNat).reverse
theorem schs_get {b : List UInt8} {k i : Nat} (h : i < k) : (schs b k).getD i 0 = (sch b (k - 1 - i)).toNat := by
  have hl : i < (schs b k).length := by simp [schs]; exact h
  rw [List.getD, List.getElem?_eq_getElem hl, Option.getD_some]
  simp [schs]
theorem schs_succ {b : List UInt8} {k : Nat} (h : 16 ≤ k) : schs b (k + 1) = ZN.step (schs b k) := by
  have e : schs b (k + 1) = (sch b k).toNat :: schs b k := by simp [schs, List.range_succ]
  rw [e, ZN.step, schs_get (by omega), schs_get (by omega), schs_get (by omega), schs_get (by omega), sch_hi h, UInt32.toNat_add, UInt32.toNat_add, UInt32.toNat_add, sg0_nat, sg1_nat]
  rw [show k - 1 - 15 = k - 16 by omega, show k - 1 - 14 = k - 15 by omega, show k - 1 - 6 = k - 7 by omega, show k - 1 - 1 = k - 2 by omega]
  rfl
theorem schs_from {b : List UInt8} : ∀ n, schs b (16 + n) = (Nat.rec (schs b 16) (fun _ l => ZN.step l) n : List Nat)
  | 0 => rfl
  | n + 1 => by rw [show 16 + (n + 1) = (16 + n) + 1 by omega, schs_succ (by omega), schs_from n]
theorem rnds_nat (K W : Nat → UInt32) : ∀ (n j : Nat) (v : V8), (rnds (fun i => K (i + j)) (fun i => W (i + j)) v n).a.toNat = ZN.rounds ((List.range n).map fun i => (K (i + j)).toNat) ((List.range n).map fun i => (W (i + j)).toNat) v.a.toNat v.b.toNat v.c.toNat v.d.toNat v.e.toNat v.f.toNat v.g.toNat v.h.toNat
  | 0, j, v => rfl
  | n + 1, j, v => by
    have hr : ∀ (K W : Nat → UInt32) (v : V8) (n : Nat), rnds K W v (n + 1) = rnds (fun i => K (i + 1)) (fun i => W (i + 1)) (rnd (K 0) (W 0) v) n := by
      intro K W v n
      induction n with
      | zero => rfl
      | succ n ih => rw [rnds, ih]; rfl
    rw [hr]
    have ih := rnds_nat K W n (j + 1) (rnd (K (0 + j)) (W (0 + j)) v)
    have ef : ∀ f : Nat → UInt32, (fun i => f (i + 1 + j)) = fun i => f (i + (j + 1)) := fun f => by funext i; congr 1; omega
    rw [ef K, ef W, ih, List.range_succ_eq_map]
    simp only [List.map_cons, List.map_map, Function.comp_def, ZN.rounds]
    have e0 : ∀ f : Nat → UInt32, (fun x => (f (Nat.succ x + j)).toNat) = fun x => (f (x + (j + 1))).toNat := fun f => by funext i; congr 2; omega
    rw [e0 K, e0 W]
    simp only [rnd, UInt32.toNat_add, UInt32.toNat_xor, UInt32.toNat_and, UInt32.toNat_not, rotr_nat (show 1 ≤ 6 by decide) (by decide), rotr_nat (show 1 ≤ 11 by decide) (by decide), rotr_nat (show 1 ≤ 25 by decide) (by decide), rotr_nat (show 1 ≤ 2 by decide) (by decide), rotr_nat (show 1 ≤ 13 by decide) (by decide), rotr_nat (show 1 ≤ 22 by decide) (by decide)]
    rfl
def zW : List Nat := ((List.range 16).map fun i => (wordAt (refPad (framed 5 [body7 0 []])) i).toNat).reverse
def zA : Nat := ZN.rounds (kc.map UInt32.toNat) (Nat.rec zW (fun _ l => ZN.step l) 48 : List Nat).reverse 1779033703 3144134277 1013904242 2773480762 1359893119 2600822924 528734635 1541459225
theorem zA_big : ((zA + 1779033703) % 4294967296) / 16777216 ≠ 0 := by
  have h : Nat.beq (((zA + 1779033703) % 4294967296) / 16777216) 0 = false := by kernel_rfl
  intro e
  rw [e] at h
  cases h
theorem zero_byte : (sum7 0 []).getD 0 0 ≠ 0 := by
  let a := refPad (framed 5 [body7 0 []])
  have hlen : a.length = 64 := by kernel_rfl
  have e1 : takes Kc v0 a = (take64 Kc v0 a, []) := by
    rw [takes.eq_1, dif_pos (by omega), List.take_of_length_le (by omega), List.drop_eq_nil_of_le (by omega), takes.eq_1, dif_neg (by simp)]
  have e2 : (sum7 0 []).getD 0 0 = outByte (take64 Kc v0 a) 0 := by
    have : sum7 0 [] = ((List.range 32).map (outByte (takes Kc v0 a).1)).take 16 := hOf_ref Kc 5 [body7 0 []]
    rw [this, e1]
    rfl
  have h16 : schs a 16 = zW := by
    unfold schs zW
    congr 1
    refine List.map_congr_left fun i hi => ?_
    rw [sch_lo (List.mem_range.1 hi)]
  have e3 : (rnds Kc (sch a) v0 64).a.toNat = zA := by
    have h := rnds_nat Kc (sch a) 64 0 v0
    simp only [Nat.add_zero] at h
    rw [h]
    have hk : (List.range 64).map (fun i => (Kc i).toNat) = kc.map UInt32.toNat := by kernel_rfl
    have hw : (List.range 64).map (fun i => (sch a i).toNat) = (Nat.rec zW (fun _ l => ZN.step l) 48 : List Nat).reverse := by
      have h64 : (Nat.rec zW (fun _ l => ZN.step l) 48 : List Nat) = schs a 64 := h16 ▸ (schs_from (b := a) 48).symm
      rw [h64]
      simp only [schs, List.reverse_reverse]
    rw [hk, hw]
    rfl
  have e4 : (take64 Kc v0 a).a.toNat = (zA + 1779033703) % 4294967296 := by
    show (v0.a + (rnds Kc (sch a) v0 64).a).toNat = _
    rw [UInt32.toNat_add, e3]
    generalize zA = z
    show (1779033703 + z) % 4294967296 = (z + 1779033703) % 4294967296
    rw [Nat.add_comm]
  rw [e2]
  intro h
  have h2 := congrArg UInt8.toNat h
  have h3 : (outByte (take64 Kc v0 a) 0).toNat = (take64 Kc v0 a).a.toNat / 16777216 := by
    show (((take64 Kc v0 a).a >>> UInt32.ofNat 24).toUInt8).toNat = _
    have hlt := (take64 Kc v0 a).a.toNat_lt
    rw [UInt32.toNat_toUInt8, UInt32.toNat_shiftRight]
    have : (UInt32.ofNat 24).toNat % 32 = 24 := by decide
    rw [this, Nat.shiftRight_eq_div_pow]
    omega
  rw [h3, e4] at h2
  exact zA_big h2
theorem rd_zero0 : rdSlot sec0 0 = none := by
  cases h : rdSlot sec0 0 with
  | none => rfl
  | some x =>
    obtain ⟨c, r⟩ := x
    obtain ⟨h1, h2, h3, _, h5, h6, _⟩ := rdSlot_some h
    have hc : c = 0 := by rw [h1]; simp [cntS, sec0, valN]
    have hr : r = [] := by rw [h2, recS]; simp [lenS, sec0]
    subst hc; subst hr
    have h7 := congrArg (fun s : Sec => s.l.getD 40 0) h6
    have h8 : sec0.l.getD 40 0 = 0 := by kernel_rfl
    have h9 : (slotS (0 : Nat) []).l.getD 40 0 = (sum7 0 []).getD 0 0 := by
      show (slotL (mx0 0) ([] : List UInt8)).getD 40 0 = _
      rw [slotL, List.getD, List.getElem?_append_right (by rw [body7_len (by simp)]; omega), body7_len (by simp), List.getElem?_append_left (by rw [sum7_len]; omega)]
      rfl
    simp only [h8, h9] at h7
    exact absurd h7 zero_byte
theorem rd_zero (p : Nat) (hp : p < 2) : rdSlot sec0 p = none := by
  rcases (show p = 0 ∨ p = 1 by omega) with rfl | rfl
  · exact rd_zero0
  · exact rd_zero1
end Go.Proofs.YtffkjjakceojfaaDoor

/- Plain words on slots, part 3: the laws' scripts. -/
namespace Go.Proofs.YtffkjjakceojfaaDoor
open Go
set_option linter.unusedVariables false
set_option linter.unusedSimpArgs false
structure SL where
  base : Int
  count : Nat
  rec' : List UInt8
def DS.right (d : DS) (b : Int) : Bool := decide (0 ≤ b) && decide (b < (d.n : Int) - 1)
theorem right_iff {d : DS} {b : Int} : d.right b = true ↔ 0 ≤ b ∧ b < (d.n : Int) - 1 := by simp [DS.right]
def fmt (d : DS) (b : Int) : Nat × DS :=
  if d.right b = true then
    if (d.wr b (slotS 0 [])).1 = 0 then
      if ((d.wr b (slotS 0 [])).2.wr (b + 1) sec0).1 = 0 then (if (oper ((d.wr b (slotS 0 [])).2.wr (b + 1) sec0).2).off = true then 6 else 0, ((d.wr b (slotS 0 [])).2.wr (b + 1) sec0).2.syncd)
      else (d.wr b (slotS 0 [])).2.wr (b + 1) sec0
    else d.wr b (slotS 0 [])
  else (1, d)
theorem fmt_ok {d : DS} {b : Int} (h : DOk d) : DOk (fmt d b).2 := by
  unfold fmt
  split
  · split
    · split
      · exact syncd_ok (wr_ok (wr_ok h))
      · exact wr_ok (wr_ok h)
    · exact wr_ok h
  · exact h
def better (o : Option SL) (b : Int) : Option (Nat × List UInt8) → Option SL
  | none => o
  | some x => match o with
    | none => some ⟨b, x.1, x.2⟩
    | some s => if s.count < x.1 then some ⟨b, x.1, x.2⟩ else some s
def opnAt (d : DS) (b : Int) : Nat → Option SL
  | 0 => none
  | p + 1 => better (opnAt d b p) b (rdSlot (d.at (b + (p : Int)).toNat) p)
def opn (d : DS) (b : Int) : Option SL := opnAt d b 2
theorem opn_skip {d : DS} {b : Int} {p : Nat} {o : Option SL} (ho : opnAt d b p = o) (h : rdSlot (d.at (b + (p : Int)).toNat) p = none) : opnAt d b (p + 1) = o := by rw [opnAt, h, ho]; rfl
theorem opn_new {d : DS} {b : Int} {p c : Nat} {r : List UInt8} (ho : opnAt d b p = none) (h : rdSlot (d.at (b + (p : Int)).toNat) p = some (c, r)) : opnAt d b (p + 1) = some ⟨b, c, r⟩ := by rw [opnAt, h, ho]; rfl
theorem opn_more {d : DS} {b : Int} {p c : Nat} {r : List UInt8} {s : SL} (ho : opnAt d b p = some s) (h : rdSlot (d.at (b + (p : Int)).toNat) p = some (c, r)) (hc : s.count < c) : opnAt d b (p + 1) = some ⟨b, c, r⟩ := by rw [opnAt, h, ho]; simp only [better, if_pos hc]
theorem opn_less {d : DS} {b : Int} {p c : Nat} {r : List UInt8} {s : SL} (ho : opnAt d b p = some s) (h : rdSlot (d.at (b + (p : Int)).toNat) p = some (c, r)) (hc : ¬ s.count < c) : opnAt d b (p + 1) = some s := by rw [opnAt, h, ho]; simp only [better, if_neg hc]
def put (d : DS) (s : SL) (r : List UInt8) : Nat × DS × SL :=
  if 31 < r.length then (1, d, s) else
  if s.count = 9223372036854775807 then (8, d, s) else
  if (d.wr (s.base + (((s.count + 1) % 2 : Nat) : Int)) (slotS ((s.count + 1 : Nat) : Int) r)).1 = 0 then
    if (oper (d.wr (s.base + (((s.count + 1) % 2 : Nat) : Int)) (slotS ((s.count + 1 : Nat) : Int) r)).2).off = true then (6, (d.wr (s.base + (((s.count + 1) % 2 : Nat) : Int)) (slotS ((s.count + 1 : Nat) : Int) r)).2.syncd, s)
    else (0, (d.wr (s.base + (((s.count + 1) % 2 : Nat) : Int)) (slotS ((s.count + 1 : Nat) : Int) r)).2.syncd, ⟨s.base, s.count + 1, r⟩)
  else ((d.wr (s.base + (((s.count + 1) % 2 : Nat) : Int)) (slotS ((s.count + 1 : Nat) : Int) r)).1, (d.wr (s.base + (((s.count + 1) % 2 : Nat) : Int)) (slotS ((s.count + 1 : Nat) : Int) r)).2, s)
theorem put_ok {d : DS} {s : SL} {r : List UInt8} (h : DOk d) : DOk (put d s r).2.1 := by
  unfold put
  split
  · exact h
  · split
    · exact h
    · split
      · split
        · exact syncd_ok (wr_ok h)
        · exact syncd_ok (wr_ok h)
      · exact wr_ok h
/-- Two sectors, all synced. -/
def dZ (f : Nat → Sec) : DS := ⟨2, f, [], false, false, 0⟩
theorem dZ_ok (f : Nat → Sec) : DOk (dZ f) := ⟨show 2 ≤ 4096 by decide, by simp [dZ, keysW], by simp [dZ, keysW], (fun h => by cases h), show (-9223372036854775808 : Int) ≤ 0 ∧ (0 : Int) ≤ 9223372036854775807 by decide⟩
theorem dZ_at (f : Nat → Sec) (i : Nat) : (dZ f).at i = f i := rfl
theorem dZ_sync {f : Nat → Sec} {k : Nat} {v : Sec} : ((dZ f).write k v).syncd = dZ (updS f k v) := by
  rw [syncd_calm rfl rfl]
  simp only [DS.sync, DS.write, dZ, putW, DS.mk.injEq, true_and, and_true]
  funext i
  simp only [DS.at, lookW, updS]
  by_cases h : i = k
  · subst h; simp
  · rw [if_neg (by omega), if_neg h]; rfl
theorem dZ_wr {f : Nat → Sec} {k : Nat} {v : Sec} (h : k < 2) : (dZ f).wr k v = (0, (dZ f).write k v) := wr_calm rfl rfl (has_iff.2 ⟨by omega, by show (k : Int) < (2 : Nat); omega⟩)
def fmtF (f : Nat → Sec) : Nat → Sec := updS (updS f 0 (slotS 0 [])) 1 sec0
theorem fmt_Z (f : Nat → Sec) : fmt (dZ f) 0 = (0, dZ (fmtF f)) := by
  have h0 : (dZ f).right 0 = true := rfl
  have h1 : (dZ f).wr 0 (slotS 0 []) = (0, (dZ f).write 0 (slotS 0 [])) := wr_calm rfl rfl rfl
  have h2 : ((dZ f).write 0 (slotS 0 [])).wr (0 + 1) sec0 = (0, ((dZ f).write 0 (slotS 0 [])).write 1 sec0) := wr_calm rfl rfl rfl
  rw [fmt, if_pos h0, h1, if_pos rfl]
  simp only [h2, if_true]
  rw [oper_calm rfl, syncd_calm rfl rfl]
  have e : (((dZ f).write 0 (slotS 0 [])).write 1 sec0).sync = dZ (fmtF f) := by
    simp only [DS.sync, DS.write, dZ, DS.mk.injEq, true_and, and_true]
    funext i
    simp only [DS.at, putW, lookW, fmtF, updS, show ¬ (1 : Int) = 0 by decide, if_false]
    by_cases h0 : i = 0
    · subst h0; rfl
    · by_cases h1 : i = 1
      · subst h1; rfl
      · rw [if_neg (by omega), if_neg (by omega), if_neg h1, if_neg h0]; rfl
  rw [e]; rfl
theorem crash_Z (f : Nat → Sec) (kb : List Bool) : (dZ f).crash kb = dZ f := by rw [crash_idle rfl]; rfl
/-- A disk of two sectors whose power stays. -/
structure Calm2 (d : DS) : Prop where
  ok : DOk d
  n : d.n = 2
  armed : d.armed = false
  off : d.off = false
theorem put_C {d : DS} {s : SL} {r : List UInt8} (h : Calm2 d) (hb : s.base = 0) (hc : s.count < 9223372036854775807) (hr : r.length ≤ 31) : ∃ d', put d s r = (0, d', ⟨s.base, s.count + 1, r⟩) ∧ Calm2 d' := by
  have hw : d.wr (s.base + (((s.count + 1) % 2 : Nat) : Int)) (slotS ((s.count + 1 : Nat) : Int) r) = (0, d.write (s.base + (((s.count + 1) % 2 : Nat) : Int)) (slotS ((s.count + 1 : Nat) : Int) r)) := wr_calm h.armed h.off (has_iff.2 ⟨by omega, by rw [hb, h.n]; omega⟩)
  have hk := wr_ok (i := s.base + (((s.count + 1) % 2 : Nat) : Int)) (v := slotS ((s.count + 1 : Nat) : Int) r) h.ok
  rw [hw] at hk
  refine ⟨(d.write (s.base + (((s.count + 1) % 2 : Nat) : Int)) (slotS ((s.count + 1 : Nat) : Int) r)).sync, ?_, sync_ok hk, h.n, h.armed, h.off⟩
  rw [put, if_neg (by omega), if_neg (by omega), hw, if_pos rfl]
  generalize hW : d.write (s.base + (((s.count + 1) % 2 : Nat) : Int)) (slotS ((s.count + 1 : Nat) : Int) r) = W
  have ha : W.armed = false := by rw [← hW]; exact h.armed
  have hof : W.off = false := by rw [← hW]; exact h.off
  simp only [oper_calm ha, syncd_calm ha hof, hof, Bool.false_eq_true, if_false]
theorem put_Z {f : Nat → Sec} {c : Nat} {q r : List UInt8} (hc : c < 9223372036854775807) (hr : r.length ≤ 31) : put (dZ f) ⟨0, c, q⟩ r = (0, dZ (updS f ((c + 1) % 2) (slotS ((c + 1 : Nat) : Int) r)), ⟨0, c + 1, r⟩) := by
  have hk : (c + 1) % 2 < 2 := Nat.mod_lt _ (by decide)
  have hw := dZ_wr (f := f) (v := slotS ((c + 1 : Nat) : Int) r) hk
  rw [put, if_neg (by omega), if_neg (by simp only; omega)]
  simp only [Int.zero_add, hw, if_true]
  rw [oper_calm rfl, if_neg (by show ¬ false = true; decide), dZ_sync]
/-- Sectors that hold a record of a count, and nothing newer. -/
structure GoodAt (f : Nat → Sec) (c : Nat) (r : List UInt8) : Prop where
  cl : c < 9223372036854775808
  rl : r.length ≤ 31
  me : f (c % 2) = slotS (c : Int) r
  it : ∀ x, rdSlot (f ((c + 1) % 2)) ((c + 1) % 2) = some x → x.1 < c
theorem opn_good {d : DS} {c : Nat} {r : List UInt8} (h : GoodAt d.at c r) : opn d 0 = some ⟨0, c, r⟩ := by
  have h1 := rd_slot (r := r) h.cl h.rl
  rw [← h.me] at h1
  have hit := h.it
  show better (better none 0 (rdSlot (d.at ((0 : Int) + ((0 : Nat) : Int)).toNat) 0)) 0 (rdSlot (d.at ((0 : Int) + ((1 : Nat) : Int)).toNat) 1) = _
  rw [show ((0 : Int) + ((0 : Nat) : Int)).toNat = 0 from rfl, show ((0 : Int) + ((1 : Nat) : Int)).toNat = 1 from rfl]
  rcases (show c % 2 = 0 ∨ c % 2 = 1 by omega) with e | e
  · have e2 : (c + 1) % 2 = 1 := by omega
    rw [e] at h1
    rw [e2] at hit
    rw [h1]
    cases hx : rdSlot (d.at 1) 1 with
    | none => rfl
    | some x =>
      have := hit x hx
      simp only [better]
      rw [if_neg (by omega)]
  · have e2 : (c + 1) % 2 = 0 := by omega
    rw [e] at h1
    rw [e2] at hit
    rw [h1]
    cases hx : rdSlot (d.at 0) 0 with
    | none => rfl
    | some x =>
      have := hit x hx
      simp only [better]
      rw [if_pos this]
theorem opn_none {d : DS} {b : Int} (h0 : rdSlot (d.at (b + ((0 : Nat) : Int)).toNat) 0 = none) (h1 : rdSlot (d.at (b + ((1 : Nat) : Int)).toNat) 1 = none) : opn d b = none := by
  show better (better none b (rdSlot (d.at (b + ((0 : Nat) : Int)).toNat) 0)) b (rdSlot (d.at (b + ((1 : Nat) : Int)).toNat) 1) = none
  rw [h0, h1]; rfl
theorem good_put {f : Nat → Sec} {c : Nat} {q r : List UInt8} (h : GoodAt f c q) (hc : c + 1 < 9223372036854775808) (hr : r.length ≤ 31) : GoodAt (updS f ((c + 1) % 2) (slotS ((c + 1 : Nat) : Int) r)) (c + 1) r := by
  refine ⟨hc, hr, by rw [updS, if_pos rfl], fun x hx => ?_⟩
  have e : (c + 1 + 1) % 2 = c % 2 := by omega
  rw [e, updS, if_neg (by omega), h.me, rd_slot h.cl h.rl] at hx
  cases hx
  exact Nat.lt_succ_self _
theorem good_fmt (f : Nat → Sec) : GoodAt (fmtF f) 0 [] := ⟨by decide, by decide, rfl, fun x hx => (by rw [show fmtF f ((0 + 1) % 2) = sec0 from rfl, show (0 + 1) % 2 = 1 from rfl, rd_zero1] at hx; cases hx)⟩
/-! ### The chapter's example -/
def aF0 : Nat → Sec := fmtF fun _ => sec0
def aF1 : Nat → Sec := updS aF0 1 (slotS ((1 : Nat) : Int) [97])
def aF2 : Nat → Sec := updS aF1 0 (slotS ((2 : Nat) : Int) [98])
theorem aF1_put : put (dZ aF0) ⟨0, 0, []⟩ [97] = (0, dZ aF1, ⟨0, 1, [97]⟩) := put_Z (by decide) (by decide)
theorem aF2_put : put (dZ aF1) ⟨0, 1, [97]⟩ [98] = (0, dZ aF2, ⟨0, 2, [98]⟩) := put_Z (by decide) (by decide)
theorem aF2_opn : opn (dZ aF2) 0 = some ⟨0, 2, [98]⟩ := opn_good (good_put (good_put (good_fmt _) (by decide) (by decide)) (by decide) (by decide))
/-! ### Records in a row -/
def recs (xs : List (List UInt8)) : Nat → List UInt8
  | 0 => []
  | j + 1 => xs.getD j []
def fE (xs : List (List UInt8)) : Nat → Nat → Sec
  | 0 => fmtF fun _ => sec0
  | k + 1 => updS (fE xs k) ((k + 1) % 2) (slotS ((k + 1 : Nat) : Int) (recs xs (k + 1)))
theorem fE_me (xs : List (List UInt8)) (k : Nat) : fE xs k (k % 2) = slotS (k : Int) (recs xs k) := by
  cases k with
  | zero => rfl
  | succ k => rw [fE, updS, if_pos rfl]
theorem fE_old (xs : List (List UInt8)) (k : Nat) : fE xs (k + 1) (k % 2) = slotS (k : Int) (recs xs k) := by
  rw [fE, updS, if_neg (by omega), fE_me]
theorem dE_put {xs : List (List UInt8)} {k : Nat} (hk : k ≤ 20) (h : (recs xs (k + 1)).length ≤ 31) : put (dZ (fE xs k)) ⟨0, k, recs xs k⟩ (recs xs (k + 1)) = (0, dZ (fE xs (k + 1)), ⟨0, k + 1, recs xs (k + 1)⟩) := put_Z (by omega) h
/-- The newer slot is lost. -/
def dN (xs : List (List UInt8)) (n : Nat) : DS := (dZ (fE xs n)).write ((n % 2 : Nat) : Int) sec0
def dB (xs : List (List UInt8)) (n : Nat) : DS := (dN xs n).write (((n + 1) % 2 : Nat) : Int) sec0
theorem dN_wr (xs : List (List UInt8)) (n : Nat) : (dZ (fE xs n)).wr ((n % 2 : Nat) : Int) sec0 = (0, dN xs n) := dZ_wr (Nat.mod_lt _ (by decide))
theorem dB_wr (xs : List (List UInt8)) (n : Nat) : (dN xs n).wr (((n + 1) % 2 : Nat) : Int) sec0 = (0, dB xs n) := wr_calm rfl rfl (has_iff.2 ⟨by omega, by show ((((n + 1) % 2 : Nat)) : Int) < (2 : Nat); omega⟩)
theorem dN_ok (xs : List (List UInt8)) (n : Nat) : DOk (dN xs n) := by have := wr_ok (i := ((n % 2 : Nat) : Int)) (v := sec0) (dZ_ok (fE xs n)); rwa [dN_wr] at this
theorem dB_ok (xs : List (List UInt8)) (n : Nat) : DOk (dB xs n) := by have := wr_ok (i := (((n + 1) % 2 : Nat) : Int)) (v := sec0) (dN_ok xs n); rwa [dB_wr] at this
theorem dN_me (xs : List (List UInt8)) (n : Nat) : (dN xs n).at (n % 2) = sec0 := by simp [DS.at, dN, DS.write, dZ, putW, lookW]
theorem dN_it (xs : List (List UInt8)) (n : Nat) : (dN xs n).at ((n + 1) % 2) = fE xs n ((n + 1) % 2) := by
  have : ¬ (((n + 1) % 2 : Nat) : Int) = ((n % 2 : Nat) : Int) := by omega
  simp only [DS.at, dN, DS.write, dZ, putW, lookW, if_neg this]; rfl
theorem dN_opn {xs : List (List UInt8)} {n : Nat} (h1 : 1 ≤ n) (hn : n ≤ 20) (hr : (recs xs (n - 1)).length ≤ 31) : opn (dN xs n) 0 = some ⟨0, n - 1, recs xs (n - 1)⟩ := by
  obtain ⟨k, rfl⟩ : ∃ k, n = k + 1 := ⟨n - 1, by omega⟩
  have e : (k + 1 + 1) % 2 = k % 2 := by omega
  refine opn_good ⟨by omega, hr, ?_, fun x hx => ?_⟩
  · have := dN_it xs (k + 1)
    rw [e] at this
    rw [Nat.add_sub_cancel, this]; exact fE_old xs k
  · rw [Nat.add_sub_cancel, dN_me, rd_zero _ (Nat.mod_lt _ (by decide))] at hx
    cases hx
theorem dB_at (xs : List (List UInt8)) (n p : Nat) (hp : p < 2) : (dB xs n).at p = sec0 := by
  have hne : ¬ (((n + 1) % 2 : Nat) : Int) = ((n % 2 : Nat) : Int) := by omega
  have e : (dB xs n).at p = ((if (p : Int) = ((n % 2 : Nat) : Int) then some sec0 else if (p : Int) = (((n + 1) % 2 : Nat) : Int) then some sec0 else none).getD (fE xs n p)) := by
    simp only [DS.at, dB, dN, DS.write, dZ, putW, lookW, if_neg hne]
  rw [e]
  by_cases h : (p : Int) = ((n % 2 : Nat) : Int)
  · rw [if_pos h]; rfl
  · rw [if_neg h, if_pos (by omega)]; rfl
theorem dB_opn (xs : List (List UInt8)) (n : Nat) : opn (dB xs n) 0 = none := opn_none
  (by rw [show ((0 : Int) + ((0 : Nat) : Int)).toNat = 0 from rfl, dB_at _ _ 0 (by decide), rd_zero0]) (by rw [show ((0 : Int) + ((1 : Nat) : Int)).toNat = 1 from rfl, dB_at _ _ 1 (by decide), rd_zero1])
/-! ### The greatest count -/
def dG (c : Nat) (r : List UInt8) : DS := (dZ fun _ => sec0).write ((c % 2 : Nat) : Int) (slotS (c : Int) r)
theorem dG_wr (c : Nat) (r : List UInt8) : (dZ fun _ => sec0).wr ((c % 2 : Nat) : Int) (slotS (c : Int) r) = (0, dG c r) := dZ_wr (Nat.mod_lt _ (by decide))
theorem dG_ok (c : Nat) (r : List UInt8) : DOk (dG c r) := by have := wr_ok (i := ((c % 2 : Nat) : Int)) (v := slotS (c : Int) r) (dZ_ok fun _ => sec0); rwa [dG_wr] at this
theorem dG_calm (c : Nat) (r : List UInt8) : Calm2 (dG c r) := ⟨dG_ok c r, rfl, rfl, rfl⟩
theorem dG_opn {c : Nat} {r : List UInt8} (hc : c < 9223372036854775808) (hr : r.length ≤ 31) : opn (dG c r) 0 = some ⟨0, c, r⟩ := by
  refine opn_good ⟨hc, hr, by simp [DS.at, dG, DS.write, dZ, putW, lookW], fun x hx => ?_⟩
  have hne : ¬ (((c + 1) % 2 : Nat) : Int) = ((c % 2 : Nat) : Int) := by omega
  have e : (dG c r).at ((c + 1) % 2) = sec0 := by simp only [DS.at, dG, DS.write, dZ, putW, lookW, if_neg hne]; rfl
  rw [e, rd_zero _ (Nat.mod_lt _ (by decide))] at hx
  cases hx
theorem put_full {d : DS} {s : SL} {r : List UInt8} (hr : r.length ≤ 31) (hc : s.count = 9223372036854775807) : put d s r = (8, d, s) := by rw [put, if_neg (by omega), if_pos hc]
/-- A slot in the other one's place. -/
def dO (c : Nat) (r : List UInt8) : DS := (dZ fun _ => sec0).write (((c + 1) % 2 : Nat) : Int) (slotS (c : Int) r)
theorem dO_wr (c : Nat) (r : List UInt8) : (dZ fun _ => sec0).wr (((c + 1) % 2 : Nat) : Int) (slotS (c : Int) r) = (0, dO c r) := dZ_wr (Nat.mod_lt _ (by decide))
theorem dO_ok (c : Nat) (r : List UInt8) : DOk (dO c r) := by have := wr_ok (i := (((c + 1) % 2 : Nat) : Int)) (v := slotS (c : Int) r) (dZ_ok fun _ => sec0); rwa [dO_wr] at this
theorem dO_opn {c : Nat} {r : List UInt8} (hc : c < 9223372036854775808) : opn (dO c r) 0 = none := by
  have key : ∀ p, p < 2 → rdSlot ((dO c r).at p) p = none := fun p hp => by
    by_cases h : p = (c + 1) % 2
    · have e : (dO c r).at p = slotS (c : Int) r := by rw [h]; simp [DS.at, dO, DS.write, dZ, putW, lookW]
      rw [e]; exact rd_other hc (by omega)
    · have hne : ¬ (p : Int) = (((c + 1) % 2 : Nat) : Int) := by omega
      have e : (dO c r).at p = sec0 := by simp only [DS.at, dO, DS.write, dZ, putW, lookW, if_neg hne]; rfl
      rw [e]; exact rd_zero p hp
  exact opn_none (key 0 (by decide)) (key 1 (by decide))
theorem recs_len {xs : List (List UInt8)} {k : Nat} (h : ∀ j, j < k → (xs.getD j []).length ≤ 31) : (recs xs k).length ≤ 31 := by
  cases k with
  | zero => exact Nat.zero_le _
  | succ k => exact h k (Nat.lt_succ_self k)
/-! ### Which places are refused -/
def dF (n : Nat) : DS := ⟨n, fun _ => sec0, [], false, false, 0⟩
def dR (n l : Nat) : DS := ⟨n, fun _ => sec0, [], false, true, (l : Int)⟩
theorem dF_ok {n : Nat} (h : n ≤ 6) : DOk (dF n) := ⟨show n ≤ 4096 by omega, by simp [dF, keysW], by simp [dF, keysW], (fun h => by cases h), show (-9223372036854775808 : Int) ≤ 0 ∧ (0 : Int) ≤ 9223372036854775807 by decide⟩
theorem dR_ok {n l : Nat} (h : n ≤ 6) (hl : l ≤ 6) : DOk (dR n l) := ⟨show n ≤ 4096 by omega, by simp [dR, keysW], by simp [dR, keysW], fun _ _ => (show (0 : Int) ≤ (l : Int) by omega), show (-9223372036854775808 : Int) ≤ (l : Int) ∧ (l : Int) ≤ 9223372036854775807 by omega⟩
theorem dR_arm (n l : Nat) : ({ dF n with armed := decide (0 ≤ (l : Int)), left := (l : Int) } : DS) = dR n l := by simp [dF, dR]
theorem dF_opn (n : Nat) (b : Int) : opn (dF n) b = none := opn_none (by show rdSlot sec0 0 = none; exact rd_zero0) (by show rdSlot sec0 1 = none; exact rd_zero1)
theorem wr_armed0 {d : DS} {i : Int} {v : Sec} (hi : d.has i = true) (ha : d.armed = true) (ho : d.off = false) (hl : d.left = 0) : (d.wr i v).1 = 6 := by
  rw [wr_off hi (by rw [(oper_yes ha ho).1]; exact decide_eq_true hl)]
theorem wr_armed1 {d : DS} {i : Int} {v : Sec} (hi : d.has i = true) (ha : d.armed = true) (ho : d.off = false) (hl : d.left ≠ 0) : (d.wr i v).1 = 0 ∧ (d.wr i v).2.n = d.n ∧ (d.wr i v).2.armed = true ∧ (d.wr i v).2.off = false ∧ (d.wr i v).2.left = d.left - 1 := by
  obtain ⟨h1, h2, h3⟩ := oper_yes ha ho
  have h4 : (oper d).off = false := by rw [h1]; exact decide_eq_false hl
  rw [wr_on hi h4]
  exact ⟨rfl, oper_n d, by show (oper d).armed = true; rw [h2]; exact ha, h4, h3⟩
theorem fmt_R {n l : Nat} {b : Int} (hb : (dR n l).right b = true) : (fmt (dR n l) b).1 = if l < 3 then 6 else 0 := by
  obtain ⟨h0, h1⟩ := right_iff.1 hb
  have hn : ((dR n l).n : Int) = n := rfl
  have i0 : (dR n l).has b = true := has_iff.2 ⟨h0, by omega⟩
  rw [fmt, if_pos hb]
  by_cases l0 : l = 0
  · have := wr_armed0 (v := slotS 0 []) i0 rfl rfl (show ((l : Nat) : Int) = 0 by omega)
    rw [if_neg (by rw [this]; decide), this, if_pos (by omega)]
  · obtain ⟨e1, e2, e3, e4, e5⟩ := wr_armed1 (v := slotS 0 []) i0 rfl rfl (show ((l : Nat) : Int) ≠ 0 by omega)
    replace e5 : ((dR n l).wr b (slotS 0 [])).2.left = (l : Int) - 1 := e5
    rw [if_pos e1]
    generalize ((dR n l).wr b (slotS 0 [])).2 = w1 at *
    have i1 : w1.has (b + 1) = true := has_iff.2 ⟨by omega, by rw [e2]; omega⟩
    by_cases l1 : l = 1
    · have := wr_armed0 (v := sec0) i1 e3 e4 (by omega)
      rw [if_neg (by rw [this]; decide), this, if_pos (by omega)]
    · obtain ⟨f1, f2, f3, f4, f5⟩ := wr_armed1 (v := sec0) i1 e3 e4 (by omega)
      rw [if_pos f1]
      generalize (w1.wr (b + 1) sec0).2 = w2 at *
      show (if (oper w2).off = true then 6 else 0) = _
      rw [(oper_yes f3 f4).1]
      by_cases l2 : l = 2
      · rw [if_pos (decide_eq_true (by omega)), if_pos (by omega)]
      · rw [if_neg (by simp; omega), if_neg (by omega)]
theorem fmt_N {d : DS} {b : Int} (hb : d.right b = false) : fmt d b = (1, d) := by rw [fmt, if_neg (by rw [hb]; decide)]
end Go.Proofs.YtffkjjakceojfaaDoor

/- Walks, by program (wg.py) out of a spec. -/
namespace Go.Proofs.YtffkjjakceojfaaDoor
open Go
set_option linter.unusedVariables false
set_option linter.unusedSimpArgs false


/-- A slots' record in block g, over a disk in block gd. -/
def SlR (g gd : Nat) (s : SL) : Res := exR fun p : Option Addr × Nat => allR [blk g 64 [.pointer (some ⟨gd, 0, none⟩), .int .i64 s.base, .int .i64 (s.count : Int), .slice p.1 s.rec'.length p.2], rowR 5 1 p.1 s.rec'.length p.2 (s.rec'.map B8)]
def OutR (g : Option Nat) (gd : Nat) (o : Option SL) : Res := match g, o with
  | none, none => pureR True
  | some g, some s => SlR g gd s
  | _, _ => pureR False
section
variable {w0 w : World} {F F0 : Nat → Prop} {g gd : Nat} {s : SL} {L : List Res} {Q : Exit → Act → World → Prop} {n : Nat} {env : Env} {ops : Array Oper} {rest : List Oper}
theorem sl_open (h : stars (SlR g gd s :: L) w F) : ∃ a c, stars (blk g 64 [.pointer (some ⟨gd, 0, none⟩), .int .i64 s.base, .int .i64 (s.count : Int), .slice a s.rec'.length c] :: rowR 5 1 a s.rec'.length c (s.rec'.map B8) :: L) w F := by
  obtain ⟨⟨a, c⟩, h⟩ := stars_ex h
  exact ⟨a, c, stars_all h⟩
theorem St.sl {a : Option Addr} {m c : Nat} {base count : Int} {xs : List Value} (h : St w0 F0 (blk g 64 [.pointer (some ⟨gd, 0, none⟩), .int .i64 base, .int .i64 count, .slice a m c] :: rowR 5 1 a m c xs :: L) w)
    (h1 : base = s.base) (h2 : count = (s.count : Int)) (h3 : m = s.rec'.length) (h4 : xs = s.rec'.map B8) : St w0 F0 (SlR g gd s :: L) w := by
  subst h1; subst h2; subst h3; subst h4
  obtain ⟨F, hF, hst⟩ := h
  exact ⟨F, stars_ex_mk (a, c) (stars_all_mk hF), hst⟩
theorem gc_sl {k : Code} {L' : List Res} (hp : Pick L (SlR g gd s) L') (K : ∀ a c, Gc Tryd.prog w0 F0 (blk g 64 [.pointer (some ⟨gd, 0, none⟩), .int .i64 s.base, .int .i64 (s.count : Int), .slice a s.rec'.length c] :: rowR 5 1 a s.rec'.length c (s.rec'.map B8) :: L') k Q n env) : Gc Tryd.prog w0 F0 L k Q n env := fun w hw => by
  obtain ⟨F, hF, hst⟩ := hw.pick hp
  obtain ⟨a, c, h⟩ := sl_open hF
  exact K a c w ⟨F, h, hst⟩
theorem gl_sl {L' : List Res} (hp : Pick L (SlR g gd s) L') (K : ∀ a c, Gl Tryd.prog w0 F0 (blk g 64 [.pointer (some ⟨gd, 0, none⟩), .int .i64 s.base, .int .i64 (s.count : Int), .slice a s.rec'.length c] :: rowR 5 1 a s.rec'.length c (s.rec'.map B8) :: L') ops Q rest n env) : Gl Tryd.prog w0 F0 L ops Q rest n env := fun w hw => by
  obtain ⟨F, hF, hst⟩ := hw.pick hp
  obtain ⟨a, c, h⟩ := sl_open hF
  exact K a c w ⟨F, h, hst⟩
theorem gc_out0 {k : Code} {o : Option SL} {L' : List Res} (hp : Pick L (OutR none gd o) L') (K : o = none → Gc Tryd.prog w0 F0 L' k Q n env) : Gc Tryd.prog w0 F0 L k Q n env := fun w hw => by
  obtain ⟨F, hF, hst⟩ := hw.pick hp
  cases o with
  | none => exact K rfl w ⟨F, (stars_pure hF).2, hst⟩
  | some s => exact (stars_pure hF).1.elim
theorem gc_out1 {k : Code} {o : Option SL} {L' : List Res} (hp : Pick L (OutR (some g) gd o) L') (K : ∀ s, o = some s → Gc Tryd.prog w0 F0 (SlR g gd s :: L') k Q n env) : Gc Tryd.prog w0 F0 L k Q n env := fun w hw => by
  obtain ⟨F, hF, hst⟩ := hw.pick hp
  cases o with
  | none => exact (stars_pure hF).1.elim
  | some s => exact K s rfl w ⟨F, hF, hst⟩
theorem St.out0 {o : Option SL} (e : o = none) (h : St w0 F0 L w) : St w0 F0 (OutR none gd o :: L) w := by
  subst e
  obtain ⟨F, hF, hst⟩ := h
  exact ⟨F, stars_pure_mk trivial hF, hst⟩
theorem St.out1 {o : Option SL} (e : o = some s) (h : St w0 F0 (SlR g gd s :: L) w) : St w0 F0 (OutR (some g) gd o :: L) w := by
  subst e; exact h
end

attribute [local irreducible] Gl Gc Gx Gs Runs Wt

set_option maxHeartbeats 400000 in
theorem format_ok {w : World} {F : Nat → Prop} {g : Nat} {d : DS} (h : stars [DiskR g d] w F) (hk : DOk d) {ea : Nat → Addr} {es : List Nat} [Has es 1] [Has es 6] [Has es 7] [Has es 8] (hE : GErr es w (fun k => ¬ F k) 139 ea) (hK : KR w (fun k => ¬ F k)) {b : Int} :
    Calls Tryd.prog 11 #[.pointer (some ⟨g, 0, none⟩), .int .i64 b] w (Post w F (fun q : Nat => .tuple #[.pointer (if (fmt d b).1 = 0 then some ⟨q, 0, none⟩ else none), eV 139 ea (fmt d b).1]) (fun q => if (fmt d b).1 = 0 then [SlR q g ⟨b, 0, []⟩, DiskR g (fmt d b).2] else [DiskR g (fmt d b).2])) := by
  have hn4 := hk.n
  refine g_enter (env := [(0, .pointer (some ⟨g, 0, none⟩)), (1, .int .i64 b)]) Tryd.func11 rfl h Tryd.ntmps11 rfl rfl ?_
  refine gsr ?_
  refine gp zas ?_
  refine gp zas ?_
  refine gnt ?_
  refine gc_seq ?_
  refine gsr ?_
  refine gp zmv ?_
  refine gp zmv ?_
  refine zc (fun _ => ?_) (c := fun w1 F1 F2 h1 h2 hd hst => right_ok (i := b) h1 hk)
  rw [show (decide (0 ≤ b) && decide (b < (d.n : Int) - 1)) = d.right b from rfl]
  refine gp znt ?_
  refine gnt ?_
  refine gif rfl (fun hc12 => ?_) (fun hc12 => ?_)
  · try simp only at hc12
    have hr : d.right b = false := hc12
    have e : fmt d b = (1, d) := by rw [fmt, if_neg (by rw [hr]; decide)]
    refine gc_seq ?_
    refine gc_regionS (by kernel_rfl) (by kernel_rfl) ?_
    refine sp (r_ld1o rfl Ty.row_26 (hE.c 1 Has.h) (hE.n 1 Has.h)) ?_
    refine sp zas ?_
    refine sp zas ?_
    refine gs_nil ?_
    refine gx_then ?_
    refine gc_ret ?_
    refine gx_then_ret ?_
    refine gx_ret2 rfl (by conv => lhs; whnf) (by conv => lhs; whnf) ?_
    exact fun w' hw => ⟨0, by rw [e]; rfl, by simp only [e, if_neg (show ¬ (1 : Nat) = 0 by decide)]; exact hw.sel (by repeat (first | exact Sel.nil | (apply Sel.cons; · (repeat (first | exact Pick.here | apply Pick.there)))))⟩
  · try simp only at hc12
    have hr : d.right b = true := hc12
    obtain ⟨hb0, hb1⟩ := right_iff.1 hr
    obtain ⟨w1, hw1⟩ : ∃ w1, w1 = d.wr b (slotS 0 []) := ⟨_, rfl⟩
    have hk1 : DOk w1.2 := by rw [hw1]; exact wr_ok hk
    refine gc_skip ?_
    refine gx_then ?_
    refine gc_seq ?_
    refine gsr ?_
    refine gp zmv ?_
    refine gp zmv ?_
    refine zc (fun _ => ?_) (c := fun w1 F1 F2 h1 h2 hd hst => slot_ok (c := 0) (r := []) h1 (hK.mv hst.still) RdRow.nil (Nat.le_refl 0))
    refine zc (fun _ => ?_) (c := fun w1 F1 F2 h1 h2 hd hst => write_ok' (i := b) (v := slotS 0 []) h1 hk (hE.mv hst.still))
    rw [← hw1]
    refine gp zas ?_
    refine gnt ?_
    refine gsr ?_
    refine gp zmv ?_
    refine gp (r_bool (c := decide (¬ w1.1 = 0)) (r_nenil rfl (by kernel_rfl)) (by simp)) ?_
    refine gnt ?_
    refine gif rfl (fun hc19 => ?_) (fun hc19 => ?_)
    · try simp only at hc19
      have e : fmt d b = w1 := by rw [fmt, if_pos hr, ← hw1, if_neg hc19]
      refine gsr ?_
      refine gp zmv ?_
      refine gp zas ?_
      refine gp zas ?_
      refine gnt ?_
      refine gc_ret ?_
      refine gx_then_ret ?_
      refine gx_ret2 rfl (by conv => lhs; whnf) (by conv => lhs; whnf) ?_
      exact fun w' hw => ⟨0, by simp only [e, if_neg hc19], by simp only [e, if_neg hc19]; exact hw.sel (by repeat (first | exact Sel.nil | (apply Sel.cons; · (repeat (first | exact Pick.here | apply Pick.there)))))⟩
    · try simp only at hc19
      have h10 : w1.1 = 0 := by simpa using hc19
      obtain ⟨w2, hw2⟩ : ∃ w2, w2 = w1.2.wr (b + 1) sec0 := ⟨_, rfl⟩
      have hk2 : DOk w2.2 := by rw [hw2]; exact wr_ok hk1
      refine gc_skip ?_
      refine gx_then ?_
      refine gc_seq ?_
      refine gsr ?_
      refine gp zmv ?_
      refine gp zmv ?_
      refine gp zad ?_
      refine gp (zba (cs := sc sec0) (by exact rfl)) ?_
      refine zc (fun _ => ?_) (c := fun w1 F1 F2 h1 h2 hd hst => write_ok' (i := b + 1) (v := sec0) h1 hk1 (hE.mv hst.still))
      rw [← hw2]
      refine gp zas ?_
      refine gnt ?_
      refine gsr ?_
      refine gp zmv ?_
      refine gp (r_bool (c := decide (¬ w2.1 = 0)) (r_nenil rfl (by kernel_rfl)) (by simp)) ?_
      refine gnt ?_
      refine gif rfl (fun hc27 => ?_) (fun hc27 => ?_)
      · try simp only at hc27
        have e : fmt d b = w2 := by rw [fmt, if_pos hr, ← hw1, if_pos h10, ← hw2, if_neg hc27]
        refine gsr ?_
        refine gp zmv ?_
        refine gp zas ?_
        refine gp zas ?_
        refine gnt ?_
        refine gc_ret ?_
        refine gx_then_ret ?_
        refine gx_ret2 rfl (by conv => lhs; whnf) (by conv => lhs; whnf) ?_
        exact fun w' hw => ⟨0, by simp only [e, if_neg hc27], by simp only [e, if_neg hc27]; exact hw.sel (by repeat (first | exact Sel.nil | (apply Sel.cons; · (repeat (first | exact Pick.here | apply Pick.there)))))⟩
      · try simp only at hc27
        have h20 : w2.1 = 0 := by simpa using hc27
        have e : fmt d b = (if (oper w2.2).off = true then 6 else 0, w2.2.syncd) := by rw [fmt, if_pos hr, ← hw1, if_pos h10, ← hw2, if_pos h20]
        refine gc_skip ?_
        refine gx_then ?_
        refine gc_seq ?_
        refine gsr ?_
        refine gp zmv ?_
        refine zc (fun _ => ?_) (c := fun w1 F1 F2 h1 h2 hd hst => sync_ok' h1 hk2 (hE.mv hst.still))
        refine gp zas ?_
        refine gnt ?_
        refine gsr ?_
        refine gp zmv ?_
        refine gp (r_bool (c := (oper w2.2).off) (r_nenil rfl (by kernel_rfl)) (by cases (oper w2.2).off <;> rfl)) ?_
        refine gnt ?_
        refine gif rfl (fun hc32 => ?_) (fun hc32 => ?_)
        · refine gsr ?_
          refine gp zmv ?_
          refine gp zas ?_
          refine gp zas ?_
          refine gnt ?_
          refine gc_ret ?_
          refine gx_then_ret ?_
          refine gx_ret2 rfl (by conv => lhs; whnf) (by conv => lhs; whnf) ?_
          exact fun w' hw => ⟨0, by simp only [e, if_pos hc32, if_neg (show ¬ (6 : Nat) = 0 by decide)], by simp only [e, if_pos hc32, if_neg (show ¬ (6 : Nat) = 0 by decide)]; exact hw.sel (by repeat (first | exact Sel.nil | (apply Sel.cons; · (repeat (first | exact Pick.here | apply Pick.there)))))⟩
        · refine gc_skip ?_
          refine gx_then ?_
          refine gsr ?_
          refine gp zmv ?_
          refine gp zmv ?_
          refine gp zbu ?_
          refine zbN fun b37 => ?_
          refine gp zas ?_
          refine gp zas ?_
          refine gnt ?_
          refine gc_ret ?_
          refine gx_ret2 rfl (by conv => lhs; whnf) (by conv => lhs; whnf) ?_
          have ho : (oper w2.2).off = false := hc32
          have e2 : fmt d b = (0, w2.2.syncd) := by rw [e, if_neg (by rw [ho]; decide)]
          exact fun w' hw => ⟨b37, by rw [e2, eV_zero]; rfl, by simp only [e2, if_pos (show (0 : Nat) = 0 from rfl)]; exact St.sl (s := ⟨b, 0, []⟩) (a := none) (m := 0) (c := 0) (hw.rowNil.sel (by repeat (first | exact Sel.nil | (apply Sel.cons; · (repeat (first | exact Pick.here | apply Pick.there)))))) rfl rfl rfl rfl⟩

set_option maxHeartbeats 400000 in
theorem open_no {w : World} {F : Nat → Prop} {g : Nat} {d : DS} (h : stars [DiskR g d] w F) (hk : DOk d) {ea : Nat → Addr} {es : List Nat} [Has es 1] [Has es 6] [Has es 7] [Has es 8] (hE : GErr es w (fun k => ¬ F k) 139 ea) {b : Int} (hrt : d.right b = false) :
    Calls Tryd.prog 16 #[.pointer (some ⟨g, 0, none⟩), .int .i64 b] w (Post w F (fun _ : Unit => .tuple #[.pointer none, eV 139 ea 1]) (fun _ => [DiskR g d])) := by
  refine g_enter (env := [(0, .pointer (some ⟨g, 0, none⟩)), (1, .int .i64 b)]) Tryd.func16 rfl h Tryd.ntmps16 rfl rfl ?_
  refine gsr ?_
  refine gp zas ?_
  refine gp zas ?_
  refine gnt ?_
  refine gc_seq ?_
  refine gsr ?_
  refine gp zmv ?_
  refine gp zmv ?_
  refine zc (fun _ => ?_) (c := fun w1 F1 F2 h1 h2 hd hst => right_ok (i := b) h1 hk)
  rw [show (decide (0 ≤ b) && decide (b < (d.n : Int) - 1)) = false from hrt]
  refine gp znt ?_
  refine gnt ?_
  refine gc_condT rfl rfl ?_
  refine gc_seq ?_
  refine gc_regionS (by kernel_rfl) (by kernel_rfl) ?_
  refine sp (r_ld1o rfl Ty.row_26 (hE.c 1 Has.h) (hE.n 1 Has.h)) ?_
  refine sp zas ?_
  refine sp zas ?_
  refine gs_nil ?_
  refine gx_then ?_
  refine gc_ret ?_
  refine gx_then_ret ?_
  refine gx_ret2 rfl (by conv => lhs; whnf) (by conv => lhs; whnf) ?_
  exact ze ()

set_option maxHeartbeats 400000 in
theorem record_ok {w : World} {F : Nat → Prop} {g gd : Nat} {s : SL} (h : stars [SlR g gd s] w F) (hs : s.rec'.length ≤ 31) :
    Calls Tryd.prog 12 #[.pointer (some ⟨g, 0, none⟩)] w (Post w F (fun x : Option Addr × Nat => .slice x.1 s.rec'.length x.2) (fun x => [rowR 5 1 x.1 s.rec'.length x.2 (s.rec'.map B8), SlR g gd s])) := by
  obtain ⟨a, c, h⟩ := sl_open h
  refine g_enter (env := [(0, .pointer (some ⟨g, 0, none⟩))]) Tryd.func12 rfl h Tryd.ntmps12 rfl rfl ?_
  refine gsr ?_
  refine gp zas ?_
  refine gnt ?_
  refine gsr ?_
  refine gp zmv ?_
  refine gp znc ?_
  refine gp zfa ?_
  refine gp zl ?_
  refine zc (fun x7 => ?_) (c := fun w1 F1 F2 h1 h2 hd hst => cloneBytes_ok (xs := s.rec'.map B8) h1 (rd_row h2 hd (by repeat (first | exact Pick.here | apply Pick.there))) (one_B8 _) (by omega))
  refine gp zas ?_
  refine gnt ?_
  refine gc_ret ?_
  refine gx_ret1 rfl (by conv => lhs; whnf) ?_
  exact fun w' hw => ⟨x7, rfl, (St.sl (s := s) (gd := gd) (L := [rowR 5 1 x7.1 s.rec'.length x7.2 (s.rec'.map B8)]) (a := a) (hw.sel (by repeat (first | exact Sel.nil | (apply Sel.cons; · (repeat (first | exact Pick.here | apply Pick.there)))))) rfl rfl rfl rfl).sel (by repeat (first | exact Sel.nil | (apply Sel.cons; · (repeat (first | exact Pick.here | apply Pick.there)))))⟩

set_option maxHeartbeats 400000 in
theorem count_ok {w : World} {F : Nat → Prop} {g gd : Nat} {s : SL} (h : stars [SlR g gd s] w F) :
    Calls Tryd.prog 14 #[.pointer (some ⟨g, 0, none⟩)] w (Post w F (fun _ : Unit => .int .i64 (s.count : Int)) (fun _ => [SlR g gd s])) := by
  obtain ⟨a, c, h⟩ := sl_open h
  refine g_enter (env := [(0, .pointer (some ⟨g, 0, none⟩))]) Tryd.func14 rfl h Tryd.ntmps14 rfl rfl ?_
  refine gsr ?_
  refine gp zas ?_
  refine gnt ?_
  refine gsr ?_
  refine gp zmv ?_
  refine gp znc ?_
  refine gp zfa ?_
  refine gp zl ?_
  refine gp zas ?_
  refine gnt ?_
  refine gc_ret ?_
  refine gx_ret1 rfl (by conv => lhs; whnf) ?_
  exact fun w' hw => ⟨(), rfl, St.sl (s := s) (hw.sel (by repeat (first | exact Sel.nil | (apply Sel.cons; · (repeat (first | exact Pick.here | apply Pick.there)))))) rfl rfl rfl rfl⟩

end Go.Proofs.YtffkjjakceojfaaDoor

/- Walks, by program (wg.py) out of a spec. -/
namespace Go.Proofs.YtffkjjakceojfaaDoor
open Go
set_option linter.unusedVariables false
set_option linter.unusedSimpArgs false

attribute [local irreducible] Gl Gc Gx Gs Runs Wt

set_option maxHeartbeats 400000 in
theorem open_ok {w : World} {F : Nat → Prop} {g : Nat} {d : DS} (h : stars [DiskR g d] w F) (hk : DOk d) (hoff : d.off = false) {ea : Nat → Addr} {es : List Nat} [Has es 1] [Has es 6] [Has es 7] [Has es 8] (hE : GErr es w (fun k => ¬ F k) 139 ea) (hK : KR w (fun k => ¬ F k)) {b : Int} (hrt : d.right b = true) :
    Calls Tryd.prog 16 #[.pointer (some ⟨g, 0, none⟩), .int .i64 b] w (Post w F (fun q : Nat => .tuple #[.pointer ((opn d b).map fun _ => ⟨q, 0, none⟩), eV 139 ea (if (opn d b).isSome then 0 else 7)]) (fun q => match opn d b with | none => [DiskR g d] | some s => [SlR q g s, DiskR g d])) := by
  have hn4 := hk.n
  obtain ⟨hb0, hb1⟩ := right_iff.1 hrt
  refine g_enter (env := [(0, .pointer (some ⟨g, 0, none⟩)), (1, .int .i64 b)]) Tryd.func16 rfl h Tryd.ntmps16 rfl rfl ?_
  refine gsr ?_
  refine gp zas ?_
  refine gp zas ?_
  refine gnt ?_
  refine gc_seq ?_
  refine gsr ?_
  refine gp zmv ?_
  refine gp zmv ?_
  refine zc (fun _ => ?_) (c := fun w1 F1 F2 h1 h2 hd hst => right_ok (i := b) h1 hk)
  rw [show (decide (0 ≤ b) && decide (b < (d.n : Int) - 1)) = true from hrt]
  refine gp znt ?_
  refine gnt ?_
  refine gc_condF rfl rfl ?_
  refine gc_skip ?_
  refine gx_then ?_
  refine gsr ?_
  refine gp zas ?_
  refine gnt ?_
  refine gc_seq ?_
  refine gsr ?_
  refine gp zmv ?_
  refine gnt ?_
  refine gc_block ?_
  refine gc_loop (α := Nat × Option Nat) (fun q => [pureR (q.1 ≤ 2), OutR q.2 g (opnAt d b q.1), DiskR g d]) (fun q => [(18, .int .i64 (q.1 : Int)), (6, .pointer (q.2.map fun x => ⟨x, 0, none⟩))]) [4, 5, 7, 8, 9, 10, 11, 12, 19, 20, 21, 22, 23, 24, 25, 26, 27, 28, 29, 30, 31, 32, 33, 34, 35, 36, 37, 38, 39, 40, 41, 42, 43, 44, 45, 46, 47, 48, 49, 50, 51, 52, 53, 54, 55, 56, 57, 58] (fun q => 2 - q.1) (0, none) ?_ ?_ ?_
  · refine env_start (by kernel_rfl)
  · exact fun w' hw => zlp (Nat.zero_le _) (by repeat (first | exact Sel.nil | (apply Sel.cons; · (repeat (first | exact Pick.here | apply Pick.there))))) w' (St.out0 (gd := g) (o := opnAt d b 0) (L := [DiskR g d]) rfl (hw.sel (by repeat (first | exact Sel.nil | (apply Sel.cons; · (repeat (first | exact Pick.here | apply Pick.there)))))))
  · intro q u
    obtain ⟨p, go⟩ := q
    refine gc_pureR (fun hp => ?_)
    replace hp : p ≤ 2 := hp
    refine gc_seq ?_
    by_cases hgo : go = none
    · subst hgo
      refine gc_out0 (o := opnAt d b p) (by repeat (first | exact Pick.here | apply Pick.there)) (fun ho => ?_)
      refine gc_region ?_
      refine gp zlt ?_
      refine gnt ?_
      refine gc_seq ?_
      refine gif rfl (fun hc19 => ?_) (fun hc19 => ?_)
      · try simp only at hc19
        have hp' : p < 2 := by omega
        have erd : d.rd (b + (p : Int)) = (0, (d.at (b + (p : Int)).toNat)) := rd_at (has_iff.2 ⟨by omega, by omega⟩) hoff
        refine gc_skip ?_
        refine gx_then ?_
        refine gc_seq ?_
        refine gc_block ?_
        refine gsr ?_
        refine gp zmv ?_
        refine gp zas ?_
        refine gnt ?_
        refine gsr ?_
        refine gp zmv ?_
        refine gp zmv ?_
        refine gp zmv ?_
        refine gp zad ?_
        refine zc (fun _ => ?_) (c := fun w1 F1 F2 h1 h2 hd hst => read_ok (i := b + (p : Int)) h1 (hE.mv hst.still))
        rw [erd]
        refine gp zmv ?_
        refine gp zex ?_
        refine gp zex ?_
        refine zal fun b8 => ?_
        refine zsA (new := sc ((d.at (b + (p : Int)).toNat))) (sc_length _) (sc_one _) ?_
        refine gp zas ?_
        refine gnt ?_
        refine gc_seq ?_
        refine gsr ?_
        refine gp zmv ?_
        refine gp (r_bool (c := false) (r_nenil rfl (by kernel_rfl)) rfl) ?_
        refine gnt ?_
        refine gc_condF rfl rfl ?_
        refine gc_skip ?_
        refine gx_then ?_
        refine gc_seq ?_
        by_cases hS : rdSlot (d.at (b + (p : Int)).toNat) p = none
        · refine gc_region ?_
          refine gp (zL (sg := sc (d.at (b + (p : Int)).toNat))) ?_
          refine gp zmv ?_
          refine zc (fun _ => ?_) (c := fun w1 F1 F2 h1 h2 hd hst => read_none (s := (d.at (b + (p : Int)).toNat)) (p := p) h1 (hK.mv hst.still) hS)
          refine gp zmv ?_
          refine gp zex ?_
          refine gp zex ?_
          refine gp zex ?_
          refine gp zas ?_
          refine gp zas ?_
          refine gp zas ?_
          refine gnt ?_
          refine gsr ?_
          refine gp zmv ?_
          refine gp zmv ?_
          refine gn ?_
          refine gn ?_
          refine gn ?_
          refine gn ?_
          refine gn ?_
          refine gn ?_
          refine gn ?_
          refine gn ?_
          refine gn ?_
          refine gn ?_
          refine gp zpk ?_
          refine gnt ?_
          refine gc_condF rfl rfl ?_
          refine gc_skip ?_
          refine gx_block_normal ?_
          refine gx_then ?_
          refine gc_region ?_
          refine gp zad ?_
          refine gp zmv ?_
          refine gl_nil ?_
          refine zrd ((p + 1, none)) ?_ ?_
          · show 2 - (p + 1) < 2 - p
            omega
          · exact fun w' hw => zlp (show p + 1 ≤ 2 by omega) (by repeat (first | exact Sel.nil | (apply Sel.cons; · (repeat (first | exact Pick.here | apply Pick.there))))) w' (St.out0 (gd := g) (L := [DiskR g d]) (opn_skip ho hS) (hw.sel (by repeat (first | exact Sel.nil | (apply Sel.cons; · (repeat (first | exact Pick.here | apply Pick.there)))))))
        · obtain ⟨⟨c, r⟩, hS⟩ := Option.ne_none_iff_exists'.1 hS
          refine gc_region ?_
          refine gp (zL (sg := sc (d.at (b + (p : Int)).toNat))) ?_
          refine gp zmv ?_
          refine zc (fun x35 => ?_) (c := fun w1 F1 F2 h1 h2 hd hst => read_some (s := (d.at (b + (p : Int)).toNat)) (p := p) (c := c) (r := r) h1 (hK.mv hst.still) hS)
          refine gp zmv ?_
          refine gp zex ?_
          refine gp zex ?_
          refine gp zex ?_
          refine gp zas ?_
          refine gp zas ?_
          refine gp zas ?_
          refine gnt ?_
          refine gsr ?_
          refine gp zmv ?_
          refine gp zmv ?_
          refine gq zmv ?_
          refine gq (r_bool (c := true) (r_eqpn rfl Ty.un_29) rfl) ?_
          refine gq zmv ?_
          refine gn ?_
          refine gn ?_
          refine gn ?_
          refine gn ?_
          refine gn ?_
          refine gn ?_
          refine gq zpk ?_
          refine gp zpk ?_
          refine gnt ?_
          refine gc_condT rfl rfl ?_
          refine gc_region ?_
          refine gp zmv ?_
          refine gp zmv ?_
          refine gp zmv ?_
          refine gp zmv ?_
          refine gp zbu ?_
          refine zbN fun b57 => ?_
          refine gp zas ?_
          refine gl_nil ?_
          refine gx_block_normal ?_
          refine gx_then ?_
          refine gc_region ?_
          refine gp zad ?_
          refine gp zmv ?_
          refine gl_nil ?_
          refine zrd ((p + 1, some b57)) ?_ ?_
          · show 2 - (p + 1) < 2 - p
            omega
          · exact fun w' hw => zlp (show p + 1 ≤ 2 by omega) (by repeat (first | exact Sel.nil | (apply Sel.cons; · (repeat (first | exact Pick.here | apply Pick.there))))) w' (St.out1 (L := [DiskR g d]) (opn_new ho hS) (St.sl (s := ⟨b, c, r⟩) (hw.sel (by repeat (first | exact Sel.nil | (apply Sel.cons; · (repeat (first | exact Pick.here | apply Pick.there)))))) rfl rfl rfl rfl))
      · try simp only at hc19
        have hp' : p = 2 := by omega
        subst hp'
        refine gc_exit ?_
        refine gx_then_exit ?_
        refine gx_round_exit ?_
        refine gx_block_hit ?_
        refine gx_then ?_
        refine gc_seq ?_
        refine gsr ?_
        refine gp zmv ?_
        refine gp (r_bool (c := true) (r_eqpn rfl Ty.un_29) rfl) ?_
        refine gnt ?_
        refine gc_condT rfl rfl ?_
        refine gc_seq ?_
        refine gc_regionS (by kernel_rfl) (by kernel_rfl) ?_
        refine sp (r_ld1o rfl Ty.row_26 (hE.c 7 Has.h) (hE.n 7 Has.h)) ?_
        refine sp zas ?_
        refine sp zas ?_
        refine gs_nil ?_
        refine gx_then ?_
        refine gc_ret ?_
        refine gx_then_ret ?_
        refine gx_ret2 rfl (by conv => lhs; whnf) (by conv => lhs; whnf) ?_
        exact fun w' hw => ⟨0, by rw [show opn d b = none from ho]; rfl, by simp only [show opn d b = none from ho]; exact hw.sel (by repeat (first | exact Sel.nil | (apply Sel.cons; · (repeat (first | exact Pick.here | apply Pick.there)))))⟩
    · obtain ⟨g6, rfl⟩ : ∃ g6, go = some g6 := Option.ne_none_iff_exists'.1 hgo
      refine gc_out1 (o := opnAt d b p) (by repeat (first | exact Pick.here | apply Pick.there)) (fun s6 ho => ?_)
      refine gc_region ?_
      refine gp zlt ?_
      refine gnt ?_
      refine gc_seq ?_
      refine gif rfl (fun hc19 => ?_) (fun hc19 => ?_)
      · try simp only at hc19
        have hp' : p < 2 := by omega
        have erd : d.rd (b + (p : Int)) = (0, (d.at (b + (p : Int)).toNat)) := rd_at (has_iff.2 ⟨by omega, by omega⟩) hoff
        refine gc_skip ?_
        refine gx_then ?_
        refine gc_seq ?_
        refine gc_block ?_
        refine gsr ?_
        refine gp zmv ?_
        refine gp zas ?_
        refine gnt ?_
        refine gsr ?_
        refine gp zmv ?_
        refine gp zmv ?_
        refine gp zmv ?_
        refine gp zad ?_
        refine zc (fun _ => ?_) (c := fun w1 F1 F2 h1 h2 hd hst => read_ok (i := b + (p : Int)) h1 (hE.mv hst.still))
        rw [erd]
        refine gp zmv ?_
        refine gp zex ?_
        refine gp zex ?_
        refine zal fun b8 => ?_
        refine zsA (new := sc ((d.at (b + (p : Int)).toNat))) (sc_length _) (sc_one _) ?_
        refine gp zas ?_
        refine gnt ?_
        refine gc_seq ?_
        refine gsr ?_
        refine gp zmv ?_
        refine gp (r_bool (c := false) (r_nenil rfl (by kernel_rfl)) rfl) ?_
        refine gnt ?_
        refine gc_condF rfl rfl ?_
        refine gc_skip ?_
        refine gx_then ?_
        refine gc_seq ?_
        by_cases hS : rdSlot (d.at (b + (p : Int)).toNat) p = none
        · refine gc_region ?_
          refine gp (zL (sg := sc (d.at (b + (p : Int)).toNat))) ?_
          refine gp zmv ?_
          refine zc (fun _ => ?_) (c := fun w1 F1 F2 h1 h2 hd hst => read_none (s := (d.at (b + (p : Int)).toNat)) (p := p) h1 (hK.mv hst.still) hS)
          refine gp zmv ?_
          refine gp zex ?_
          refine gp zex ?_
          refine gp zex ?_
          refine gp zas ?_
          refine gp zas ?_
          refine gp zas ?_
          refine gnt ?_
          refine gsr ?_
          refine gp zmv ?_
          refine gp zmv ?_
          refine gn ?_
          refine gn ?_
          refine gn ?_
          refine gn ?_
          refine gn ?_
          refine gn ?_
          refine gn ?_
          refine gn ?_
          refine gn ?_
          refine gn ?_
          refine gp zpk ?_
          refine gnt ?_
          refine gc_condF rfl rfl ?_
          refine gc_skip ?_
          refine gx_block_normal ?_
          refine gx_then ?_
          refine gc_region ?_
          refine gp zad ?_
          refine gp zmv ?_
          refine gl_nil ?_
          refine zrd ((p + 1, some g6)) ?_ ?_
          · show 2 - (p + 1) < 2 - p
            omega
          · exact fun w' hw => zlp (show p + 1 ≤ 2 by omega) (by repeat (first | exact Sel.nil | (apply Sel.cons; · (repeat (first | exact Pick.here | apply Pick.there))))) w' (St.out1 (L := [DiskR g d]) (opn_skip ho hS) (hw.sel (by repeat (first | exact Sel.nil | (apply Sel.cons; · (repeat (first | exact Pick.here | apply Pick.there)))))))
        · obtain ⟨⟨c, r⟩, hS⟩ := Option.ne_none_iff_exists'.1 hS
          refine gc_region ?_
          refine gp (zL (sg := sc (d.at (b + (p : Int)).toNat))) ?_
          refine gp zmv ?_
          refine zc (fun x35 => ?_) (c := fun w1 F1 F2 h1 h2 hd hst => read_some (s := (d.at (b + (p : Int)).toNat)) (p := p) (c := c) (r := r) h1 (hK.mv hst.still) hS)
          refine gp zmv ?_
          refine gp zex ?_
          refine gp zex ?_
          refine gp zex ?_
          refine gp zas ?_
          refine gp zas ?_
          refine gp zas ?_
          refine gnt ?_
          refine gc_seq ?_
          by_cases hcnt : s6.count < c
          · refine gc_sl (s := s6) (by repeat (first | exact Pick.here | apply Pick.there)) (fun a6 c6 => ?_)
            refine gc_region ?_
            refine gp zmv ?_
            refine gp zmv ?_
            refine gq zmv ?_
            refine gq (r_bool (c := false) (r_eqpn rfl Ty.un_29) rfl) ?_
            refine gq zmv ?_
            refine gq zmv ?_
            refine gq zmv ?_
            refine gq znc ?_
            refine gq zfa ?_
            refine gq zl ?_
            refine gq (r_bool (c := true) zgt (decide_eq_true (by omega))) ?_
            refine gq zpk ?_
            refine gp zpk ?_
            refine gnt ?_
            refine gc_condT rfl rfl ?_
            refine gc_region ?_
            refine gp zmv ?_
            refine gp zmv ?_
            refine gp zmv ?_
            refine gp zmv ?_
            refine gp zbu ?_
            refine zbN fun b57 => ?_
            refine gp zas ?_
            refine gl_nil ?_
            refine gx_block_normal ?_
            refine gx_then ?_
            refine gc_region ?_
            refine gp zad ?_
            refine gp zmv ?_
            refine gl_nil ?_
            refine zrd ((p + 1, some b57)) ?_ ?_
            · show 2 - (p + 1) < 2 - p
              omega
            · exact fun w' hw => zlp (show p + 1 ≤ 2 by omega) (by repeat (first | exact Sel.nil | (apply Sel.cons; · (repeat (first | exact Pick.here | apply Pick.there))))) w' (St.out1 (L := [DiskR g d]) (opn_more ho hS hcnt) (St.sl (s := ⟨b, c, r⟩) (hw.sel (by repeat (first | exact Sel.nil | (apply Sel.cons; · (repeat (first | exact Pick.here | apply Pick.there)))))) rfl rfl rfl rfl))
          · refine gc_sl (s := s6) (by repeat (first | exact Pick.here | apply Pick.there)) (fun a6 c6 => ?_)
            refine gc_region ?_
            refine gp zmv ?_
            refine gp zmv ?_
            refine gq zmv ?_
            refine gq (r_bool (c := false) (r_eqpn rfl Ty.un_29) rfl) ?_
            refine gq zmv ?_
            refine gq zmv ?_
            refine gq zmv ?_
            refine gq znc ?_
            refine gq zfa ?_
            refine gq zl ?_
            refine gq (r_bool (c := false) zgt (decide_eq_false (by omega))) ?_
            refine gq zpk ?_
            refine gp zpk ?_
            refine gnt ?_
            refine gc_condF rfl rfl ?_
            refine gc_skip ?_
            refine gx_block_normal ?_
            refine gx_then ?_
            refine gc_region ?_
            refine gp zad ?_
            refine gp zmv ?_
            refine gl_nil ?_
            refine zrd ((p + 1, some g6)) ?_ ?_
            · show 2 - (p + 1) < 2 - p
              omega
            · exact fun w' hw => zlp (show p + 1 ≤ 2 by omega) (by repeat (first | exact Sel.nil | (apply Sel.cons; · (repeat (first | exact Pick.here | apply Pick.there))))) w' (St.out1 (L := [DiskR g d]) (opn_less ho hS hcnt) (St.sl (s := s6) (hw.sel (by repeat (first | exact Sel.nil | (apply Sel.cons; · (repeat (first | exact Pick.here | apply Pick.there)))))) rfl rfl rfl rfl))
      · try simp only at hc19
        have hp' : p = 2 := by omega
        subst hp'
        refine gc_exit ?_
        refine gx_then_exit ?_
        refine gx_round_exit ?_
        refine gx_block_hit ?_
        refine gx_then ?_
        refine gc_seq ?_
        refine gsr ?_
        refine gp zmv ?_
        refine gp (r_bool (c := false) (r_eqpn rfl Ty.un_29) rfl) ?_
        refine gnt ?_
        refine gc_condF rfl rfl ?_
        refine gc_skip ?_
        refine gx_then ?_
        refine gsr ?_
        refine gp zmv ?_
        refine gp zas ?_
        refine gp zas ?_
        refine gnt ?_
        refine gc_ret ?_
        refine gx_ret2 rfl (by conv => lhs; whnf) (by conv => lhs; whnf) ?_
        exact fun w' hw => ⟨g6, by rw [show opn d b = some s6 from ho]; simp only [Option.map_some, Option.isSome_some, if_true]; rw [eV_zero], by simp only [show opn d b = some s6 from ho]; exact hw.sel (by repeat (first | exact Sel.nil | (apply Sel.cons; · (repeat (first | exact Pick.here | apply Pick.there)))))⟩

set_option maxHeartbeats 400000 in
theorem put_ok' {w : World} {F : Nat → Prop} {g gd : Nat} {d : DS} {s : SL} (h : stars [SlR g gd s, DiskR gd d] w F) (hk : DOk d) {ea : Nat → Addr} {es : List Nat} [Has es 1] [Has es 6] [Has es 7] [Has es 8] (hE : GErr es w (fun k => ¬ F k) 139 ea) (hK : KR w (fun k => ¬ F k)) (hb : 0 ≤ s.base ∧ s.base ≤ 4096) (hc : s.count < 9223372036854775808) {r : List UInt8} {a : Option Addr} {n cc : Nat} (hr : RdRow w (fun k => ¬ F k) 1 a n (r.map B8)) (hcc : n ≤ cc) :
    Calls Tryd.prog 13 #[.pointer (some ⟨g, 0, none⟩), .slice a n cc] w (Post w F (fun _ : Unit => eV 139 ea (put d s r).1) (fun _ => [SlR g gd (put d s r).2.2, DiskR gd (put d s r).2.1])) := by
  obtain ⟨hb0, hb1⟩ := hb
  have hn : n = r.length := by have := hr.1; simp at this; omega
  have hmx := hr.2.1
  simp only [maxLen] at hmx
  obtain ⟨a0, c0, h⟩ := sl_open h
  refine g_enter (env := [(0, .pointer (some ⟨g, 0, none⟩)), (1, .slice a n cc)]) Tryd.func13 rfl h Tryd.ntmps13 rfl rfl ?_
  refine gsr ?_
  refine gp zas ?_
  refine gnt ?_
  refine gc_seq ?_
  refine gc_block ?_
  refine gsr ?_
  refine gp zmv ?_
  refine gp zln ?_
  refine gp zgt ?_
  refine gp zas ?_
  refine gnt ?_
  refine gif rfl (fun hc8 => ?_) (fun hc8 => ?_)
  · try simp only at hc8
    have e : put d s r = (1, d, s) := by rw [put, if_pos (by omega)]
    refine gsr ?_
    refine gp (r_ld1o rfl Ty.row_26 (hE.c 1 Has.h) (hE.n 1 Has.h)) ?_
    refine gp zas ?_
    refine gnt ?_
    refine gc_ret ?_
    refine gx_block_ret ?_
    refine gx_then_ret ?_
    refine gx_ret1 rfl (by conv => lhs; whnf) ?_
    exact fun w' hw => ⟨(), by rw [e], by rw [e]; exact St.sl (s := s) (L := [DiskR gd d]) (hw.sel (by repeat (first | exact Sel.nil | (apply Sel.cons; · (repeat (first | exact Pick.here | apply Pick.there)))))) rfl rfl rfl rfl⟩
  · try simp only at hc8
    have h31 : ¬ 31 < r.length := by omega
    refine gsr ?_
    refine gp zmv ?_
    refine gp znc ?_
    refine gp zfa ?_
    refine gp zl ?_
    refine gp zei ?_
    refine gp zas ?_
    refine gnt ?_
    refine gif rfl (fun hc13 => ?_) (fun hc13 => ?_)
    · try simp only at hc13
      have e : put d s r = (8, d, s) := by rw [put, if_neg h31, if_pos (by omega)]
      refine gsr ?_
      refine gp (r_ld1o rfl Ty.row_26 (hE.c 8 Has.h) (hE.n 8 Has.h)) ?_
      refine gp zas ?_
      refine gnt ?_
      refine gc_ret ?_
      refine gx_block_ret ?_
      refine gx_then_ret ?_
      refine gx_ret1 rfl (by conv => lhs; whnf) ?_
      exact fun w' hw => ⟨(), by rw [e], by rw [e]; exact St.sl (s := s) (L := [DiskR gd d]) (hw.sel (by repeat (first | exact Sel.nil | (apply Sel.cons; · (repeat (first | exact Pick.here | apply Pick.there)))))) rfl rfl rfl rfl⟩
    · try simp only at hc13
      have hmx1 : ¬ s.count = 9223372036854775807 := by omega
      obtain ⟨w1, hw1⟩ : ∃ w1, w1 = (d.wr (s.base + (((s.count + 1) % 2 : Nat) : Int)) (slotS ((s.count + 1 : Nat) : Int) r)) := ⟨_, rfl⟩
      have hk1 : DOk w1.2 := by rw [hw1]; exact wr_ok hk
      refine gc_skip ?_
      refine gx_block_normal ?_
      refine gx_then ?_
      refine gsr ?_
      refine gp zmv ?_
      refine gp znc ?_
      refine gp zfa ?_
      refine gp zl ?_
      refine gp (r_int (j := ((s.count + 1 : Nat) : Int)) zad (by omega)) ?_
      refine gp zas ?_
      refine gnt ?_
      refine gc_seq ?_
      refine gc_seq ?_
      refine gc_regionZ 15 ([blk g 64 [.pointer (some ⟨gd, 0, none⟩), .int .i64 s.base, .int .i64 (s.count : Int), .slice a0 s.rec'.length c0]]) ?_
      refine yps 0 rfl zmv ?_
      refine yps 1 rfl znc ?_
      refine yps 2 rfl zfa ?_
      refine yps 3 rfl zl ?_
      refine yps 4 rfl zmv ?_
      refine yps 5 rfl znc ?_
      refine yps 6 rfl zfa ?_
      refine yps 7 rfl zl ?_
      refine yps 8 rfl zmv ?_
      refine yps 9 rfl (r_int (j := (((s.count + 1) % 2 : Nat) : Int)) zrm rfl) ?_
      refine yps 10 rfl zad ?_
      refine yps 11 rfl zmv ?_
      refine yps 12 rfl zmv ?_
      refine yos 13 rfl ?_
      refine zc (fun _ => ?_) (c := fun w1 F1 F2 h1 h2 hd hst => slot_ok (c := ((s.count + 1 : Nat) : Int)) (r := r) h1 (hK.mv hst.still) (hr.mv hst.still) hcc)
      refine yxs ?_
      refine yos 14 rfl ?_
      refine zc (fun _ => ?_) (c := fun w1 F1 F2 h1 h2 hd hst => write_ok' (d := d) (i := s.base + (((s.count + 1) % 2 : Nat) : Int)) (v := slotS ((s.count + 1 : Nat) : Int) r) h1 hk (hE.mv hst.still))
      rw [← hw1]
      refine yxs ?_
      refine yzs rfl ?_
      refine gp zas ?_
      refine gnt ?_
      refine gsr ?_
      refine gp zmv ?_
      refine gp (r_bool (c := decide (¬ w1.1 = 0)) (r_nenil rfl (by kernel_rfl)) (by simp)) ?_
      refine gnt ?_
      refine gif rfl (fun hc41 => ?_) (fun hc41 => ?_)
      · try simp only at hc41
        have e : put d s r = (w1.1, w1.2, s) := by rw [put, if_neg h31, if_neg hmx1, ← hw1, if_neg hc41]
        refine gsr ?_
        refine gp zmv ?_
        refine gp zas ?_
        refine gnt ?_
        refine gc_ret ?_
        refine gx_then_ret ?_
        refine gx_ret1 rfl (by conv => lhs; whnf) ?_
        exact fun w' hw => ⟨(), by rw [e], by rw [e]; exact St.sl (s := s) (L := [DiskR gd w1.2]) (hw.sel (by repeat (first | exact Sel.nil | (apply Sel.cons; · (repeat (first | exact Pick.here | apply Pick.there)))))) rfl rfl rfl rfl⟩
      · try simp only at hc41
        have h10 : w1.1 = 0 := by simpa using hc41
        refine gc_skip ?_
        refine gx_then ?_
        refine gc_seq ?_
        refine gsr ?_
        refine gp zmv ?_
        refine gp znc ?_
        refine gp zfa ?_
        refine gp zl ?_
        refine zc (fun _ => ?_) (c := fun w1 F1 F2 h1 h2 hd hst => sync_ok' h1 hk1 (hE.mv hst.still))
        refine gp zas ?_
        refine gnt ?_
        refine gsr ?_
        refine gp zmv ?_
        refine gp (r_bool (c := (oper w1.2).off) (r_nenil rfl (by kernel_rfl)) (by cases (oper w1.2).off <;> rfl)) ?_
        refine gnt ?_
        refine gif rfl (fun hc49 => ?_) (fun hc49 => ?_)
        · try simp only at hc49
          have e : put d s r = (6, w1.2.syncd, s) := by rw [put, if_neg h31, if_neg hmx1, ← hw1, if_pos h10, if_pos hc49]
          refine gsr ?_
          refine gp zmv ?_
          refine gp zas ?_
          refine gnt ?_
          refine gc_ret ?_
          refine gx_then_ret ?_
          refine gx_ret1 rfl (by conv => lhs; whnf) ?_
          exact fun w' hw => ⟨(), by rw [e, if_pos hc49], by rw [e]; exact St.sl (s := s) (L := [DiskR gd w1.2.syncd]) (hw.sel (by repeat (first | exact Sel.nil | (apply Sel.cons; · (repeat (first | exact Pick.here | apply Pick.there)))))) rfl rfl rfl rfl⟩
        · try simp only at hc49
          have e : put d s r = (0, w1.2.syncd, ⟨s.base, s.count + 1, r⟩) := by rw [put, if_neg h31, if_neg hmx1, ← hw1, if_pos h10, if_neg (by rw [hc49]; decide)]
          refine gc_skip ?_
          refine gx_then ?_
          refine gsr ?_
          refine gp zmv ?_
          refine gp zmv ?_
          refine gp zmv ?_
          refine gp zmv ?_
          refine zc (fun x55 => ?_) (c := fun w1 F1 F2 h1 h2 hd hst => cloneBytes_ok (xs := r.map B8) h1 (hr.mv hst.still) (one_B8 _) (by omega))
          refine gp znc ?_
          refine gp zfa ?_
          refine zs1 ?_
          refine gp znc ?_
          refine gp zfa ?_
          refine zs1 ?_
          refine gnt ?_
          refine gsr ?_
          refine gp zas ?_
          refine gnt ?_
          refine gc_ret ?_
          refine gx_ret1 rfl (by conv => lhs; whnf) ?_
          exact fun w' hw => ⟨(), by rw [e, eV_zero], by rw [e]; exact St.sl (s := ⟨s.base, s.count + 1, r⟩) (L := [DiskR gd w1.2.syncd]) (hw.sel (by repeat (first | exact Sel.nil | (apply Sel.cons; · (repeat (first | exact Pick.here | apply Pick.there)))))) rfl rfl hn rfl⟩

end Go.Proofs.YtffkjjakceojfaaDoor

/- Walks, by program (wg.py) out of a spec. -/
namespace Go.Proofs.YtffkjjakceojfaaDoor
open Go
set_option linter.unusedVariables false
set_option linter.unusedSimpArgs false


instance {n : Nat} {x : Value} : Len (List.replicate n x) n := ⟨List.length_replicate⟩
theorem take_snoc {l : List UInt8} {k : Nat} (h : k < l.length) : l.take (k + 1) = l.take k ++ [l.getD k 0] := by
  rw [List.take_add_one]; simp [List.getD, List.getElem?_eq_getElem h]
theorem rep_one {n : Nat} {v : Value} (hv : v.oneCell' = true) : ∀ u ∈ List.replicate n v, u.oneCell' = true := fun u hu => by rw [List.eq_of_mem_replicate hu]; exact hv
theorem word_eq (a b c d : UInt8) : a.toUInt32 * 16777216 + b.toUInt32 * 65536 + c.toUInt32 * 256 + d.toUInt32 = ((a.toUInt32 <<< UInt32.ofNat 24 ||| b.toUInt32 <<< UInt32.ofNat 16) ||| c.toUInt32 <<< UInt32.ofNat 8) ||| d.toUInt32 := by
  apply UInt32.toNat_inj.1
  have ha := a.toNat_lt; have hb := b.toNat_lt; have hc := c.toNat_lt; have hd := d.toNat_lt
  have e1 : (a.toUInt32 <<< UInt32.ofNat 24).toNat = a.toNat <<< 24 := by
    rw [UInt32.toNat_shiftLeft]; simp [Nat.shiftLeft_eq]; omega
  have e2 : (b.toUInt32 <<< UInt32.ofNat 16).toNat = b.toNat <<< 16 := by
    rw [UInt32.toNat_shiftLeft]; simp [Nat.shiftLeft_eq]; omega
  have e3 : (c.toUInt32 <<< UInt32.ofNat 8).toNat = c.toNat <<< 8 := by
    rw [UInt32.toNat_shiftLeft]; simp [Nat.shiftLeft_eq]; omega
  simp only [UInt32.toNat_or, e1, e2, e3, UInt32.toNat_add, UInt32.toNat_mul, UInt8.toNat_toUInt32]
  have f1 : a.toNat <<< 24 ||| b.toNat <<< 16 = (a.toNat * 256 + b.toNat) <<< 16 := by
    have : a.toNat <<< 24 = (a.toNat <<< 8) <<< 16 := by rw [← Nat.shiftLeft_add]
    rw [this, ← Nat.shiftLeft_or_distrib, ← Nat.shiftLeft_add_eq_or_of_lt (by omega : b.toNat < 2 ^ 8)]
    simp [Nat.shiftLeft_eq]
  have f2 : (a.toNat * 256 + b.toNat) <<< 16 ||| c.toNat <<< 8 = ((a.toNat * 256 + b.toNat) * 256 + c.toNat) <<< 8 := by
    have : (a.toNat * 256 + b.toNat) <<< 16 = ((a.toNat * 256 + b.toNat) <<< 8) <<< 8 := by rw [← Nat.shiftLeft_add]
    rw [this, ← Nat.shiftLeft_or_distrib, ← Nat.shiftLeft_add_eq_or_of_lt (by omega : c.toNat < 2 ^ 8)]
    simp [Nat.shiftLeft_eq]
  rw [f1, f2, ← Nat.shiftLeft_add_eq_or_of_lt (by omega : d.toNat < 2 ^ 8)]
  simp [Nat.shiftLeft_eq]
  omega
def rPadRow (b : List UInt8) (k : Nat) : List UInt8 := b ++ 128 :: List.replicate k 0
def rLenRow (b : List UInt8) (k : Nat) : List UInt8 := b ++ 128 :: (List.replicate (padN b.length) 0 ++ (List.range k).map fun i => UInt8.ofNat (b.length * 8 / 2 ^ (8 * (7 - i))))
theorem rPadRow_succ (b : List UInt8) (k : Nat) : (rPadRow b (k + 1)).map B8 = (rPadRow b k).map B8 ++ [.int .u8 0] := by
  have e : (.int .u8 0 : Value) = B8 0 := rfl
  rw [e]; simp [rPadRow, List.replicate_succ']
theorem rLenRow_zero (b : List UInt8) : rLenRow b 0 = rPadRow b (padN b.length) := by simp [rLenRow, rPadRow]
theorem rLenRow_succ (b : List UInt8) (k : Nat) : (rLenRow b (k + 1)).map B8 = (rLenRow b k).map B8 ++ [B8 (UInt8.ofNat (b.length * 8 / 2 ^ (8 * (7 - k))))] := by simp [rLenRow, List.range_succ]
theorem rLenRow_full (b : List UInt8) : rLenRow b 8 = refPad b := rfl
theorem refPad_length (b : List UInt8) : (refPad b).length = b.length + 1 + padN b.length + 8 := by simp [refPad, lenBytes]; omega
theorem pad_hit' {m k : Nat} (h : k ≤ padN m) : (m + 1 + k) % 64 = 56 ↔ k = padN m := by unfold padN at *; omega
theorem row_byte {r : List UInt8} {e j : Nat} (he : e = j) (hj : j < r.length) : (r.map B8)[e]? = some (B8 (r.getD j 0)) := by
  subst he; rw [List.getElem?_map, List.getElem?_eq_getElem hj]; simp [List.getD, List.getElem?_eq_getElem hj]
theorem rotr' (x : UInt32) (n : Nat) : x >>> UInt32.ofNat n ||| x <<< UInt32.ofNat (32 - n) = rotr x n := UInt32.or_comm _ _
theorem word_take {r : List UInt8} {k : Nat} (hk : k < 16) (hr : 64 ≤ r.length) : (r.getD (4 * k) 0).toUInt32 * 16777216 + (r.getD (4 * k + 1) 0).toUInt32 * 65536 + (r.getD (4 * k + 2) 0).toUInt32 * 256 + (r.getD (4 * k + 3) 0).toUInt32 = sch (r.take 64) k := by
  have h : ∀ j, j < 64 → (r.take 64).getD j 0 = r.getD j 0 := fun j hj => by simp [List.getD, List.getElem?_take, hj]
  rw [sch_lo hk, wordAt, word_eq, h _ (by omega), h _ (by omega), h _ (by omega), h _ (by omega)]

attribute [local irreducible] Gl Gc Gx Gs Runs Wt


set_option maxHeartbeats 400000 in
theorem k_ok {w : World} {F : Nat → Prop} {i : Nat} (h : stars [] w F) (hi : i < 64) :
    Calls Tryd.prog 49 #[.int .i64 (i : Int)] w (Post w F (fun _ : Unit => W32 (Kc i)) (fun _ => [])) := by
  refine g_enter (env := [(0, .int .i64 (i : Int))]) Tryd.func49 rfl h Tryd.ntmps49 rfl rfl ?_
  refine gsr ?_
  refine gp zas ?_
  refine gnt ?_
  refine gsr ?_
  refine gp (r_buildA (cs := fnc W32 64 Kc) Ty.zc_100 Ty.arr_100 Ty.sz_93 (by kernel_rfl)) ?_
  refine gp zmv ?_
  refine gp (r_index1 (v := W32 (Kc i)) rfl rfl Ty.arr_100 Ty.sz_93 Ty.row_93 (by omega) (by omega) (by rw [show (i : Int).toNat * 1 = i by omega]; exact fnc_get hi)) ?_
  refine gp zas ?_
  refine gnt ?_
  refine gc_ret ?_
  refine gx_ret1 rfl (by conv => lhs; whnf) ?_
  exact ze ()

set_option maxHeartbeats 400000 in
theorem right2_ok {w : World} {F : Nat → Prop} {x : UInt32} {j : Nat} (h : stars [] w F) (h1 : 1 ≤ j) (h2 : j ≤ 31) :
    Calls Tryd.prog 50 #[W32 x, .int .u64 (j : Int)] w (Post w F (fun _ : Unit => W32 (rotr x j)) (fun _ => [])) := by
  refine g_enter (env := [(0, W32 x), (1, .int .u64 (j : Int))]) Tryd.func50 rfl h Tryd.ntmps50 rfl rfl ?_
  refine gsr ?_
  refine gp zas ?_
  refine gnt ?_
  refine gsr ?_
  refine gp zmv ?_
  refine gp zmv ?_
  refine gp (r_shrw (j := j) rfl rfl rfl (by omega)) ?_
  refine gp zmv ?_
  refine gp zmv ?_
  refine gp (r_int (r_sub rfl rfl) (show IntKind.u64.wrap (32 - (j : Int)) = ((32 - j : Nat) : Int) by rw [wrap_u64 (by omega) (by omega)]; omega)) ?_
  refine gp (r_shlw (j := 32 - j) rfl rfl rfl (by omega)) ?_
  refine gp zwo ?_
  refine gp zas ?_
  refine gnt ?_
  refine gc_ret ?_
  refine gx_ret1 rfl (by conv => lhs; whnf) ?_
  rw [rotr']
  exact ze ()

end Go.Proofs.YtffkjjakceojfaaDoor

/- Walks, by program (wg.py) out of a spec. -/
namespace Go.Proofs.YtffkjjakceojfaaDoor
open Go
set_option linter.unusedVariables false
set_option linter.unusedSimpArgs false


section
variable {w : World} {F : Nat → Prop} {g gd e : Nat} {d d' : DS} {s s' : SL} {ea : Nat → Addr} {es : List Nat} [Has es 1] [Has es 6] [Has es 7] [Has es 8] {f : Nat → Sec} {b : Int} {r : List UInt8} {a : Option Addr} {n cc : Nat}
theorem format_E (he : fmt d b = (e, d')) (hne : e ≠ 0) (h : stars [DiskR g d] w F) (hk : DOk d) (hE : GErr es w (fun k => ¬ F k) 139 ea) (hK : KR w (fun k => ¬ F k)) :
    Calls Tryd.prog 11 #[.pointer (some ⟨g, 0, none⟩), .int .i64 b] w (Post w F (fun _ : Unit => .tuple #[.pointer none, eV 139 ea e]) (fun _ => [DiskR g d'])) :=
  Calls.mono (format_ok (b := b) h hk hE hK) fun x w' ⟨q, h1, h2⟩ => ⟨(), by rw [h1, he]; simp only [if_neg hne], by rw [he] at h2; simp only [if_neg hne] at h2; exact h2⟩
theorem format_G (he : fmt d b = (0, d')) (h : stars [DiskR g d] w F) (hk : DOk d) (hE : GErr es w (fun k => ¬ F k) 139 ea) (hK : KR w (fun k => ¬ F k)) :
    Calls Tryd.prog 11 #[.pointer (some ⟨g, 0, none⟩), .int .i64 b] w (Post w F (fun q : Nat => .tuple #[.pointer (some ⟨q, 0, none⟩), eV 139 ea 0]) (fun q => [SlR q g ⟨b, 0, []⟩, DiskR g d'])) :=
  Calls.mono (format_ok (b := b) h hk hE hK) fun x w' ⟨q, h1, h2⟩ => ⟨q, by rw [h1, he]; rfl, by rw [he] at h2; exact h2⟩
theorem open_S (he : opn d b = some s) (h : stars [DiskR g d] w F) (hk : DOk d) (hoff : d.off = false) (hE : GErr es w (fun k => ¬ F k) 139 ea) (hK : KR w (fun k => ¬ F k)) (hrt : d.right b = true) :
    Calls Tryd.prog 16 #[.pointer (some ⟨g, 0, none⟩), .int .i64 b] w (Post w F (fun q : Nat => .tuple #[.pointer (some ⟨q, 0, none⟩), eV 139 ea 0]) (fun q => [SlR q g s, DiskR g d])) :=
  Calls.mono (open_ok (b := b) h hk hoff hE hK hrt) fun x w' ⟨q, h1, h2⟩ => ⟨q, by rw [h1, he]; rfl, by rw [he] at h2; exact h2⟩
theorem open_Z (he : opn d b = none) (h : stars [DiskR g d] w F) (hk : DOk d) (hoff : d.off = false) (hE : GErr es w (fun k => ¬ F k) 139 ea) (hK : KR w (fun k => ¬ F k)) (hrt : d.right b = true) :
    Calls Tryd.prog 16 #[.pointer (some ⟨g, 0, none⟩), .int .i64 b] w (Post w F (fun _ : Unit => .tuple #[.pointer none, eV 139 ea 7]) (fun _ => [DiskR g d])) :=
  Calls.mono (open_ok (b := b) h hk hoff hE hK hrt) fun x w' ⟨q, h1, h2⟩ => ⟨(), by rw [h1, he]; rfl, by rw [he] at h2; exact h2⟩
theorem put_S (he : put d s r = (e, d', s')) (h : stars [SlR g gd s, DiskR gd d] w F) (hk : DOk d) (hE : GErr es w (fun k => ¬ F k) 139 ea) (hK : KR w (fun k => ¬ F k)) (hb : 0 ≤ s.base ∧ s.base ≤ 4096) (hc : s.count < 9223372036854775808) (hr : RdRow w (fun k => ¬ F k) 1 a n (r.map B8)) (hcc : n ≤ cc) :
    Calls Tryd.prog 13 #[.pointer (some ⟨g, 0, none⟩), .slice a n cc] w (Post w F (fun _ : Unit => eV 139 ea e) (fun _ => [SlR g gd s', DiskR gd d'])) := by
  have := put_ok' h hk hE hK hb hc hr hcc
  rw [he] at this
  exact this
end

attribute [local irreducible] Gl Gc Gx Gs Runs Wt

set_option maxHeartbeats 400000 in
theorem alive07_ok {w : World} {F : Nat → Prop} (h : stars [] w F) {ea : Nat → Addr} {es : List Nat} [Has es 1] [Has es 6] [Has es 7] [Has es 8] (hE : GErr es w (fun k => ¬ F k) 139 ea) (hK : KR w (fun k => ¬ F k)) :
    Calls Tryd.prog 9 #[] w (Post w F (fun _ : Unit => .bool true) (fun _ => [])) := by
  refine g_enter (env := []) Tryd.func9 rfl h Tryd.ntmps9 rfl rfl ?_
  refine gsr ?_
  refine gp zas ?_
  refine gnt ?_
  refine gsr ?_
  refine zc (fun g5 => ?_) (c := fun w1 F1 F2 h1 h2 hd hst => new_ok (n := 2) (ea := ea) h1 (by decide) (by decide))
  refine gp zmv ?_
  refine gp zex ?_
  refine gp zex ?_
  refine gp zas ?_
  refine gp zas ?_
  refine gnt ?_
  refine gc_seq ?_
  refine gsr ?_
  refine gp zmv ?_
  refine gp (r_bool (c := false) (r_nenil rfl (by kernel_rfl)) rfl) ?_
  refine gp zmv ?_
  refine gq zmv ?_
  refine gq (r_bool (c := false) (r_eqpn rfl Ty.un_24) rfl) ?_
  refine gp zpk ?_
  refine gnt ?_
  refine gc_condF rfl rfl ?_
  refine gc_skip ?_
  refine gx_then ?_
  refine gsr ?_
  refine gp zmv ?_
  refine zc (fun g16 => ?_) (c := fun w1 F1 F2 h1 h2 hd hst => format_G (fmt_Z fun _ => sec0) h1 (dZ_ok _) (hE.mv hst.still) (hK.mv hst.still))
  refine gp zmv ?_
  refine gp zex ?_
  refine gp zex ?_
  refine gp zas ?_
  refine gp zas ?_
  refine gnt ?_
  refine gc_seq ?_
  refine gsr ?_
  refine gp zmv ?_
  refine gp (r_bool (c := false) (r_nenil rfl (by kernel_rfl)) rfl) ?_
  refine gp zmv ?_
  refine gq zmv ?_
  refine gq (r_bool (c := false) (r_eqpn rfl Ty.un_29) rfl) ?_
  refine gp zpk ?_
  refine gp zmv ?_
  refine gq zmv ?_
  refine gl_bs1Z (v := B8 97) (by first | exact wt0 rfl | exact wtgT rfl rfl rfl rfl) Ty.sl_32 Ty.sz_5 Ty.zc_5 rfl rfl (fun b27 => ?_)
  refine gl_cvZ (v := B8 97) (by first | exact wt0 rfl | exact wtgT rfl rfl rfl rfl) rfl Ty.sl_32 Ty.un_5 (by repeat (first | exact Pick.here | apply Pick.there)) ?_
  refine zc (fun _ => ?_) (c := fun w1 F1 F2 h1 h2 hd hst => put_S (r := [97]) aF1_put h1 (dZ_ok _) (hE.mv hst.still) (hK.mv hst.still) ⟨Int.le_refl 0, show (0 : Int) ≤ 4096 by decide⟩ (by decide) (rd_row (xs := [B8 97]) h2 hd (by repeat (first | exact Pick.here | apply Pick.there))) (Nat.le_refl 1))
  refine gq (r_bool (c := false) (r_nenil rfl (by kernel_rfl)) rfl) ?_
  refine gp zpk ?_
  refine gp zmv ?_
  refine gq zmv ?_
  refine gl_bs1Z (v := B8 98) (by first | exact wt0 rfl | exact wtgT rfl rfl rfl rfl) Ty.sl_32 Ty.sz_5 Ty.zc_5 rfl rfl (fun b34 => ?_)
  refine gl_cvZ (v := B8 98) (by first | exact wt0 rfl | exact wtgT rfl rfl rfl rfl) rfl Ty.sl_32 Ty.un_5 (by repeat (first | exact Pick.here | apply Pick.there)) ?_
  refine zc (fun _ => ?_) (c := fun w1 F1 F2 h1 h2 hd hst => put_S (r := [98]) aF2_put h1 (dZ_ok _) (hE.mv hst.still) (hK.mv hst.still) ⟨Int.le_refl 0, show (0 : Int) ≤ 4096 by decide⟩ (by decide) (rd_row (xs := [B8 98]) h2 hd (by repeat (first | exact Pick.here | apply Pick.there))) (Nat.le_refl 1))
  refine gq (r_bool (c := false) (r_nenil rfl (by kernel_rfl)) rfl) ?_
  refine gp zpk ?_
  refine gnt ?_
  refine gc_condF rfl rfl ?_
  refine gc_skip ?_
  refine gx_then ?_
  refine gsr ?_
  refine gp zmv ?_
  refine zc (fun _ => ?_) (c := fun w1 F1 F2 h1 h2 hd hst => crash_ok' (d := dZ aF2) (kb := []) h1 (dZ_ok _) RdRow.nil)
  rw [crash_Z]
  refine gnt ?_
  refine gsr ?_
  refine gp zmv ?_
  refine zc (fun g43 => ?_) (c := fun w1 F1 F2 h1 h2 hd hst => open_S (b := 0) aF2_opn h1 (dZ_ok _) rfl (hE.mv hst.still) (hK.mv hst.still) rfl)
  refine gp zmv ?_
  refine gp zex ?_
  refine gp zex ?_
  refine gp zas ?_
  refine gp zas ?_
  refine gnt ?_
  refine gsr ?_
  refine gp zmv ?_
  refine gp (r_bool (c := true) (r_eqnil rfl (by kernel_rfl)) rfl) ?_
  refine gp zmv ?_
  refine gq zmv ?_
  refine gq (r_bool (c := true) (r_nepn rfl Ty.un_29) rfl) ?_
  refine gp zpk ?_
  refine gp zmv ?_
  refine gq zmv ?_
  refine zc (fun x54 => ?_) (c := fun w1 F1 F2 h1 h2 hd hst => record_ok (s := ⟨0, 2, [98]⟩) h1 (by decide))
  refine gq zso ?_
  refine gq (r_bool (c := true) zes (decide_eq_true rfl)) ?_
  refine gp zpk ?_
  refine gp zmv ?_
  refine gq zmv ?_
  refine zc (fun _ => ?_) (c := fun w1 F1 F2 h1 h2 hd hst => count_ok h1)
  refine gq (r_bool (c := true) zei (decide_eq_true rfl)) ?_
  refine gp zpk ?_
  refine gp zas ?_
  refine gnt ?_
  refine gc_ret ?_
  refine gx_ret1 rfl (by conv => lhs; whnf) ?_
  exact ze ()

end Go.Proofs.YtffkjjakceojfaaDoor

/- Walks, by program (wg.py) out of a spec. -/
namespace Go.Proofs.YtffkjjakceojfaaDoor
open Go
set_option linter.unusedVariables false
set_option linter.unusedSimpArgs false


open Go.RowKit Go.Extern.Stop Go.Stop Go.Extern
theorem isTypeOf (v : Value) (w : World) : (Extern.ReflectliteType.typeOf #[.iface 139 v]).run Tryd.prog w = .ok (.iface 104 (.agg #[.pointer (some ⟨19, 139, none⟩)])) w := by kernel_rfl
def cmpE : Array Value → Sem Value := Extern.ReflectliteType.method fun t => do Extern.Rtype.noPackHeld "Comparable" t; pure (.bool (← typeInfo t).comparable)
theorem isComparable (w : World) : (cmpE #[.agg #[.pointer (some ⟨19, 139, none⟩)]]).run Tryd.prog w = .ok (.bool true) w := by kernel_rfl
theorem isMethodComparable (v : Value) (w : World) : (Go.method 275 104 v "Comparable").run Tryd.prog w = .ok (95, v) w := by kernel_rfl
theorem isComp : (Tryd.prog.info? 139).map (·.comparable) = some true := by kernel_rfl
theorem isSize : (Tryd.prog.info? 163).map (·.size) = some 1 := by kernel_rfl
theorem noIsE (v : Value) (xT : TypeId) (w : World) : (Instr.typeAssert (.iface 139 v) xT 106 true).run Tryd.prog w = .ok (.tuple #[.nilIface, .bool false]) w := run_typeAssert_lacksB Tryd.underlying106 (by kernel_rfl) (by kernel_rfl) v xT w
theorem noUnwrapE (v : Value) (xT : TypeId) (w : World) : (Instr.typeAssert (.iface 139 v) xT 109 true).run Tryd.prog w = .ok (.tuple #[.nilIface, .bool false]) w := run_typeAssert_lacksB Tryd.underlying109 (by kernel_rfl) (by kernel_rfl) v xT w
theorem noUnwrapsE (v : Value) (xT : TypeId) (w : World) : (Instr.typeAssert (.iface 139 v) xT 110 true).run Tryd.prog w = .ok (.tuple #[.nilIface, .bool false]) w := run_typeAssert_lacksB Tryd.underlying110 (by kernel_rfl) (by kernel_rfl) v xT w
/-- errors.Is(x, x), x a pointer to an errors.errorString. -/
theorem is_same (a : Addr) (w : World) :
    Calls Tryd.prog 35 #[.iface 139 (.pointer (some a)), .iface 139 (.pointer (some a))] w fun e w' => e = .returned (.bool true) ∧ w' = w := by
  obtain ⟨i, hi, hcmp⟩ := Option.map_eq_some_iff.1 isComp
  obtain ⟨j, hj, hjs⟩ := Option.map_eq_some_iff.1 isSize
  have h8 := @run_callFunc_extern Tryd.prog 43 _ Extern.ReflectliteType.typeOf Tryd.func43 (by kernel_rfl) (by kernel_rfl) (by kernel_rfl) (by kernel_rfl)
  have h32 := @run_callFunc_extern Tryd.prog 95 _ cmpE Tryd.func95 (by kernel_rfl) (by kernel_rfl) (by kernel_rfl) (by kernel_rfl)
  have tT := isTypeOf
  have cT := isComparable
  have mR := isMethodComparable
  have heq := run_eql_iface_ptr_same (P := Tryd.prog) w a Tryd.underlying26 Tryd.underlying139 hi hcmp hj
  go_enter Tryd.func35, Tryd.ntmps35
  go_wp2
  refine wp_loop_rounds 1 ?_
  rw [rounds_succ]
  go_wp2
  go_ret
  exact ⟨rfl, rfl⟩
/-- errors.Is(x, y), two different pointers to errors.errorString. -/
theorem is_other (a b : Addr) (ca cb : Array Value) (ta tb : TypeId) (w : World) (hne : a ≠ b) (ha : w.heap[a.block]? = some (.cells ca ta (0, 0))) (hb : w.heap[b.block]? = some (.cells cb tb (0, 0))) :
    Calls Tryd.prog 35 #[.iface 139 (.pointer (some a)), .iface 139 (.pointer (some b))] w fun e w' => e = .returned (.bool false) ∧ w' = w := by
  obtain ⟨i, hi, hcmp⟩ := Option.map_eq_some_iff.1 isComp
  obtain ⟨j, hj, hjs⟩ := Option.map_eq_some_iff.1 isSize
  have h8 := @run_callFunc_extern Tryd.prog 43 _ Extern.ReflectliteType.typeOf Tryd.func43 (by kernel_rfl) (by kernel_rfl) (by kernel_rfl) (by kernel_rfl)
  have h32 := @run_callFunc_extern Tryd.prog 95 _ cmpE Tryd.func95 (by kernel_rfl) (by kernel_rfl) (by kernel_rfl) (by kernel_rfl)
  have tT := isTypeOf
  have cT := isComparable
  have mR := isMethodComparable
  have nE := noIsE
  have uE := noUnwrapE
  have vE := noUnwrapsE
  have heq := run_eql_iface_ptr_other (P := Tryd.prog) w Tryd.underlying26 Tryd.underlying139 hi hcmp hj (by rw [hjs]; decide) hne ha hb
  go_enter Tryd.func35, Tryd.ntmps35
  go_wp2
  refine wp_loop_rounds 1 ?_
  rw [rounds_succ]
  go_wp2
  go_ret
  exact ⟨rfl, rfl⟩


/-- The errors' variables: all eighteen of the library, each its own. -/
structure NErr (w : World) (A : Nat → Prop) (ea : Nat → Addr) : Prop where
  g : GErr [1, 2, 3, 4, 5, 6, 7, 8, 9, 10, 11, 12, 13, 14, 15, 16, 17, 18] w A 139 ea
  c : ∀ i, 1 ≤ i → i ≤ 18 → (∃ c t, w.heap[(ea i).block]? = some (.cells c t (0, 0))) ∧ A (ea i).block
  j : ∀ i j, 1 ≤ i → i ≤ 18 → 1 ≤ j → j ≤ 18 → ea i = ea j → i = j
theorem NErr.mv {w w' : World} {A A' : Nat → Prop} {ea : Nat → Addr} (h : NErr w A ea) (k : Still w A w' A') : NErr w' A' ea :=
  ⟨h.g.mv k, fun i h1 h2 => by
    obtain ⟨⟨c, t, hc⟩, hA⟩ := h.c i h1 h2
    have hlt : (ea i).block < w.heap.size := (Array.getElem?_eq_some_iff.1 hc).1
    obtain ⟨e, hA'⟩ := k _ hlt hA
    exact ⟨⟨c, t, by rw [e]; exact hc⟩, hA'⟩, h.j⟩
theorem errIs_ok {w : World} {F : Nat → Prop} {ea : Nat → Addr} {n m : Nat} (h : stars [] w F) (hN : NErr w (fun k => ¬ F k) ea) (n1 : 1 ≤ n) (n2 : n ≤ 18) (m1 : 1 ≤ m) (m2 : m ≤ 18) :
    Calls Tryd.prog 35 #[eV 139 ea n, eV 139 ea m] w (Post w F (fun _ : Unit => .bool (decide (n = m))) (fun _ => [])) := by
  have en : eV 139 ea n = .iface 139 (.pointer (some (ea n))) := by cases n with | zero => omega | succ n => unfold eV; rfl
  have em : eV 139 ea m = .iface 139 (.pointer (some (ea m))) := by cases m with | zero => omega | succ n => unfold eV; rfl
  rw [en, em]
  by_cases hnm : n = m
  · subst hnm
    exact Calls.mono (is_same (ea n) w) fun e w' ⟨he, hw⟩ => ⟨(), by rw [he, decide_eq_true rfl], by rw [hw]; exact St.init h⟩
  · obtain ⟨⟨c1, t1, h1⟩, _⟩ := hN.c n n1 n2
    obtain ⟨⟨c2, t2, h2⟩, _⟩ := hN.c m m1 m2
    exact Calls.mono (is_other (ea n) (ea m) c1 c2 t1 t2 w (fun e => hnm (hN.j n m n1 n2 m1 m2 e)) h1 h2) fun e w' ⟨he, hw⟩ => ⟨(), by rw [he, decide_eq_false hnm], by rw [hw]; exact St.init h⟩
abbrev E18 : List Nat := [1, 2, 3, 4, 5, 6, 7, 8, 9, 10, 11, 12, 13, 14, 15, 16, 17, 18]

attribute [local irreducible] Gl Gc Gx Gs Runs Wt

set_option maxHeartbeats 400000 in
theorem errNum_ok {w : World} {F : Nat → Prop} {ea : Nat → Addr} {n : Nat} (h : stars [] w F) (hN : NErr w (fun k => ¬ F k) ea) (hn : n ≤ 18) :
    Calls Tryd.prog 21 #[eV 139 ea n] w (Post w F (fun _ : Unit => .int .i64 (n : Int)) (fun _ => [])) := by
  have hE := hN.g
  refine g_enter (env := [(0, eV 139 ea n)]) Tryd.func21 rfl h Tryd.ntmps21 rfl rfl ?_
  refine gsr ?_
  refine gp zas ?_
  refine gnt ?_
  refine gc_seq ?_
  refine gsr ?_
  refine gp zmv ?_
  refine gp (r_bool (c := decide (n = 0)) (r_eqnil rfl (by kernel_rfl)) rfl) ?_
  refine gnt ?_
  refine gif rfl (fun hc7 => ?_) (fun hc7 => ?_)
  · refine gsr ?_
    refine gp zas ?_
    refine gnt ?_
    refine gc_ret ?_
    refine gx_then_ret ?_
    refine gx_ret1 rfl (by conv => lhs; whnf) ?_
    have hn0 : n = 0 := hc7
    subst hn0
    exact ze ()
  · try simp only at hc7
    have hn0 : n ≠ 0 := hc7
    refine gc_skip ?_
    refine gx_then ?_
    refine gsr ?_
    refine gp (r_ld1o rfl Ty.row_26 (hE.c 1 Has.h) (hE.n 1 Has.h)) ?_
    refine gp (r_ld1o rfl Ty.row_26 (hE.c 2 Has.h) (hE.n 2 Has.h)) ?_
    refine gp (r_ld1o rfl Ty.row_26 (hE.c 3 Has.h) (hE.n 3 Has.h)) ?_
    refine gp (r_ld1o rfl Ty.row_26 (hE.c 4 Has.h) (hE.n 4 Has.h)) ?_
    refine gp (r_ld1o rfl Ty.row_26 (hE.c 5 Has.h) (hE.n 5 Has.h)) ?_
    refine gp (r_ld1o rfl Ty.row_26 (hE.c 6 Has.h) (hE.n 6 Has.h)) ?_
    refine gp (r_ld1o rfl Ty.row_26 (hE.c 7 Has.h) (hE.n 7 Has.h)) ?_
    refine gp (r_ld1o rfl Ty.row_26 (hE.c 8 Has.h) (hE.n 8 Has.h)) ?_
    refine gp (r_ld1o rfl Ty.row_26 (hE.c 9 Has.h) (hE.n 9 Has.h)) ?_
    refine gp (r_ld1o rfl Ty.row_26 (hE.c 10 Has.h) (hE.n 10 Has.h)) ?_
    refine gp (r_ld1o rfl Ty.row_26 (hE.c 11 Has.h) (hE.n 11 Has.h)) ?_
    refine gp (r_ld1o rfl Ty.row_26 (hE.c 12 Has.h) (hE.n 12 Has.h)) ?_
    refine gp (r_ld1o rfl Ty.row_26 (hE.c 13 Has.h) (hE.n 13 Has.h)) ?_
    refine gp (r_ld1o rfl Ty.row_26 (hE.c 14 Has.h) (hE.n 14 Has.h)) ?_
    refine gp (r_ld1o rfl Ty.row_26 (hE.c 15 Has.h) (hE.n 15 Has.h)) ?_
    refine gp (r_ld1o rfl Ty.row_26 (hE.c 16 Has.h) (hE.n 16 Has.h)) ?_
    refine gp (r_ld1o rfl Ty.row_26 (hE.c 17 Has.h) (hE.n 17 Has.h)) ?_
    refine gp (r_ld1o rfl Ty.row_26 (hE.c 18 Has.h) (hE.n 18 Has.h)) ?_
    refine gl_bslice (s := 1) (e := 26) (len := 18) (cs := ((List.range 18).map fun i => eV 139 ea (i + 1))) (z := [.nilIface]) (wt0 rfl) Ty.sl_72 (by kernel_rfl) (by decide) (by decide) (by decide) (by kernel_rfl) (by kernel_rfl) rfl (fun b26 => ?_)
    refine gp zas ?_
    refine gnt ?_
    refine gc_seq ?_
    refine gsr ?_
    refine gp zmv ?_
    refine gp zln ?_
    refine gp zmv ?_
    refine gnt ?_
    refine gc_block ?_
    refine gc_loop (α := Nat) (fun k => [pureR (k ≤ 18 ∧ k < n), rowR 26 1 (some ⟨b26, 0, none⟩) 18 18 ((List.range 18).map fun i => eV 139 ea (i + 1))]) (fun k => [(29, .int .i64 (k : Int))]) [2, 4, 5, 30, 31, 32, 33, 34, 35, 36, 37, 38, 39] (fun k => 18 - k) 0 ?_ ?_ ?_
    · refine env_start (by kernel_rfl)
    · exact fun w' hw => zlp ⟨Nat.zero_le _, by omega⟩ (by repeat (first | exact Sel.nil | (apply Sel.cons; · (repeat (first | exact Pick.here | apply Pick.there))))) w' hw
    · intro k u
      refine gc_pureR (fun hk => ?_)
      obtain ⟨hk, hkn⟩ := hk
      replace hk : k ≤ 18 := hk
      replace hkn : k < n := hkn
      refine gsr ?_
      refine gp zlt ?_
      refine gnt ?_
      refine gc_seq ?_
      refine gif rfl (fun hc30 => ?_) (fun hc30 => ?_)
      · try simp only at hc30
        have hk' : k < 18 := by omega
        refine gc_skip ?_
        refine gx_then ?_
        refine gc_seq ?_
        refine gc_block ?_
        refine gsr ?_
        refine gp zmv ?_
        refine gp (zia) ?_
        refine gp (r_ld1r (v := eV 139 ea (k + 1)) rfl Ty.row_26 (by repeat (first | exact Pick.here | apply Pick.there)) (by simp [hk'])) ?_
        refine gp zas ?_
        refine gp zas ?_
        refine gnt ?_
        refine gsr ?_
        refine gp zmv ?_
        refine gp zmv ?_
        refine zc (fun _ => ?_) (c := fun w1 F1 F2 h1 h2 hd hst => errIs_ok (n := n) (m := k + 1) h1 (hN.mv hst.still) (by omega) (by omega) (by omega) (by omega))
        refine gnt ?_
        refine gif rfl (fun hc36 => ?_) (fun hc36 => ?_)
        · refine gsr ?_
          refine gp zmv ?_
          refine gp zad ?_
          refine gp zas ?_
          refine gnt ?_
          refine gc_ret ?_
          refine gx_block_ret ?_
          refine gx_then_ret ?_
          refine gx_round_ret ?_
          refine gx_block_ret ?_
          refine gx_then_ret ?_
          refine gx_ret1 rfl (by conv => lhs; whnf) ?_
          have e : n = k + 1 := hc36
          subst e
          exact ze ()
        · refine gc_skip ?_
          refine gx_block_normal ?_
          refine gx_then ?_
          refine gc_region ?_
          refine gp zad ?_
          refine gp zmv ?_
          refine gl_nil ?_
          refine zrd (k + 1) ?_ ?_
          · show 18 - (k + 1) < 18 - k
            omega
          · exact fun w' hw => zlp ⟨by show k + 1 ≤ 18; omega, by show k + 1 < n; omega⟩ (by repeat (first | exact Sel.nil | (apply Sel.cons; · (repeat (first | exact Pick.here | apply Pick.there))))) w' hw
      · refine gc_exit ?_
        refine gx_then_exit ?_
        refine gx_round_exit ?_
        refine gx_block_hit ?_
        refine gx_then ?_
        refine gsr ?_
        refine gp zas ?_
        refine gnt ?_
        refine gc_ret ?_
        refine gx_ret1 rfl (by conv => lhs; whnf) ?_
        exact absurd hkn (by omega)

end Go.Proofs.YtffkjjakceojfaaDoor

/- Walks, by program (wg.py) out of a spec. -/
namespace Go.Proofs.YtffkjjakceojfaaDoor
open Go
set_option linter.unusedVariables false
set_option linter.unusedSimpArgs false


theorem u64_rng (x : Int) : 0 ≤ IntKind.u64.wrap x ∧ IntKind.u64.wrap x < 18446744073709551616 := by
  simp only [IntKind.wrap, IntKind.bits, IntKind.signed]; simp; omega
theorem u64_mod (a : Int) {m : Nat} (hm : 0 < m) : ∃ l : Nat, (IntKind.u64.wrap a).tmod (m : Int) = (l : Int) ∧ l < m := by
  obtain ⟨h0, _⟩ := u64_rng a
  refine ⟨((IntKind.u64.wrap a).tmod (m : Int)).toNat, by rw [Int.toNat_of_nonneg (Int.tmod_nonneg _ h0)], ?_⟩
  have := Int.tmod_lt_of_pos (IntKind.u64.wrap a) (show (0 : Int) < (m : Int) by omega)
  have := Int.tmod_nonneg (m : Int) h0
  omega

attribute [local irreducible] Gl Gc Gx Gs Runs Wt

set_option maxHeartbeats 400000 in
theorem slotsLast_ok {w : World} {F : Nat → Prop} {n0 : Int} {nr cr : Nat} {ar : Option Addr} {r : List UInt8} {ea : Nat → Addr} (h : stars [] w F) (hN : NErr w (fun k => ¬ F k) ea) (hK : KR w (fun k => ¬ F k)) (hr : RdRow w (fun k => ¬ F k) 1 ar nr (r.map B8)) (hcc : nr ≤ cr) :
    Calls Tryd.prog 6 #[.int .i64 n0, .slice ar nr cr] w (Post w F (fun _ : Unit => .bool true) (fun _ => [])) := by
  have hE := hN.g
  have hnr : nr = r.length := by have := hr.1; simp at this; omega
  obtain ⟨l, hl, hl3⟩ := u64_mod n0 (m := 3) (by decide)
  obtain ⟨c, hc⟩ : ∃ c : Nat, c = 9223372036854775807 - l := ⟨_, rfl⟩
  refine g_enter (env := [(0, .int .i64 n0), (1, .slice ar nr cr)]) Tryd.func6 rfl h Tryd.ntmps6 rfl rfl ?_
  refine gsr ?_
  refine gp zas ?_
  refine gnt ?_
  refine gc_seq ?_
  refine gsr ?_
  refine zc (fun _ => ?_) (c := fun w1 F1 F2 h1 h2 hd hst => alive07_ok h1 (hE.mv hst.still) (hK.mv hst.still))
  refine gp znt ?_
  refine gnt ?_
  refine gc_condF rfl rfl ?_
  refine gc_skip ?_
  refine gx_then ?_
  refine gsr ?_
  refine gp zmv ?_
  refine gp zci ?_
  refine gp (r_int zrm hl) ?_
  refine gp (r_int (j := (l : Int)) zci (wrap_i64 (by omega) (by omega))) ?_
  refine gp zas ?_
  refine gnt ?_
  refine gc_seq ?_
  refine gsr ?_
  refine gp zmv ?_
  refine gp zln ?_
  refine gp zgt ?_
  refine gnt ?_
  refine gif rfl (fun hc17 => ?_) (fun hc17 => ?_)
  · refine gsr ?_
    refine gp zas ?_
    refine gnt ?_
    refine gc_ret ?_
    refine gx_then_ret ?_
    refine gx_ret1 rfl (by conv => lhs; whnf) ?_
    exact ze ()
  · try simp only at hc17
    have hr31 : r.length ≤ 31 := by omega
    refine gc_skip ?_
    refine gx_then ?_
    refine gsr ?_
    refine zc (fun g19 => ?_) (c := fun w1 F1 F2 h1 h2 hd hst => new_ok (n := 2) (ea := ea) h1 (by decide) (by decide))
    refine gp zmv ?_
    refine gp zex ?_
    refine gp zex ?_
    refine gp zas ?_
    refine gp zas ?_
    refine gnt ?_
    refine gc_seq ?_
    refine gsr ?_
    refine gp zmv ?_
    refine gp (r_bool (c := false) (r_nenil rfl (by kernel_rfl)) rfl) ?_
    refine gnt ?_
    refine gc_condF rfl rfl ?_
    refine gc_skip ?_
    refine gx_then ?_
    refine gsr ?_
    refine gp zmv ?_
    refine gp (r_int (j := (c : Int)) zsb (by omega)) ?_
    refine gp zas ?_
    refine gnt ?_
    refine gc_seq ?_
    refine gsr ?_
    refine gp zmv ?_
    refine gp zmv ?_
    refine gp (r_int (j := ((c % 2 : Nat) : Int)) zrm rfl) ?_
    refine gp zmv ?_
    refine gp zmv ?_
    refine zc (fun _ => ?_) (c := fun w1 F1 F2 h1 h2 hd hst => slot_ok (c := (c : Int)) (r := r) h1 (hK.mv hst.still) (hr.mv hst.still) hcc)
    refine zc (fun _ => ?_) (c := fun w1 F1 F2 h1 h2 hd hst => write_ok' (d := dZ fun _ => sec0) (i := ((c % 2 : Nat) : Int)) (v := slotS (c : Int) r) h1 (dZ_ok _) (hE.mv hst.still))
    rw [dG_wr]
    refine gp (r_bool (c := false) (r_nenil rfl (by kernel_rfl)) rfl) ?_
    refine gnt ?_
    refine gc_condF rfl rfl ?_
    refine gc_skip ?_
    refine gx_then ?_
    refine gsr ?_
    refine gp zmv ?_
    refine zc (fun g36 => ?_) (c := fun w1 F1 F2 h1 h2 hd hst => open_S (dG_opn (c := c) (by omega) hr31) h1 (dG_ok _ _) rfl (hE.mv hst.still) (hK.mv hst.still) rfl)
    refine gp zmv ?_
    refine gp zex ?_
    refine gp zex ?_
    refine gp zas ?_
    refine gp zas ?_
    refine gnt ?_
    refine gc_seq ?_
    refine gsr ?_
    refine gp zmv ?_
    refine gp (r_bool (c := false) (r_nenil rfl (by kernel_rfl)) rfl) ?_
    refine gp zmv ?_
    refine gq zmv ?_
    refine gq (r_bool (c := false) (r_eqpn rfl Ty.un_29) rfl) ?_
    refine gp zpk ?_
    refine gp zmv ?_
    refine gq zmv ?_
    refine zc (fun _ => ?_) (c := fun w1 F1 F2 h1 h2 hd hst => count_ok h1)
    refine gq zmv ?_
    refine gq (r_bool (c := false) zni (by simp)) ?_
    refine gp zpk ?_
    refine gnt ?_
    refine gc_condF rfl rfl ?_
    refine gc_skip ?_
    refine gx_then ?_
    refine gc_seq ?_
    refine gsr ?_
    refine gp zmv ?_
    refine gp zmv ?_
    refine gnt ?_
    refine gc_block ?_
    refine gc_loop (α := Nat × DS) (fun q => [pureR (q.1 ≤ l ∧ Calm2 q.2), SlR g36 g19 ⟨0, c + q.1, r⟩, DiskR g19 q.2]) (fun q => [(52, .int .i64 (q.1 : Int))]) [4, 53, 54, 55, 56, 57, 58] (fun q => l - q.1) (0, dG c r) ?_ ?_ ?_
    · refine env_start (by kernel_rfl)
    · exact zlp ⟨Nat.zero_le _, dG_calm c r⟩
    · intro q u
      obtain ⟨k, d⟩ := q
      refine gc_pureR (fun hk => ?_)
      obtain ⟨hk, hd4⟩ := hk
      replace hk : k ≤ l := hk
      replace hd4 : Calm2 d := hd4
      refine gsr ?_
      refine gp zlt ?_
      refine gnt ?_
      refine gc_seq ?_
      refine gif rfl (fun hc53 => ?_) (fun hc53 => ?_)
      · try simp only at hc53
        have hk' : k < l := by omega
        obtain ⟨d2, he, hd2⟩ := put_C (s := ⟨0, c + k, r⟩) (r := r) hd4 rfl (by simp only; omega) hr31
        refine gc_skip ?_
        refine gx_then ?_
        refine gc_seq ?_
        refine gc_block ?_
        refine gsr ?_
        refine gp zmv ?_
        refine gp zmv ?_
        refine zc (fun _ => ?_) (c := fun w1 F1 F2 h1 h2 hd hst => put_S he h1 hd4.ok (hE.mv hst.still) (hK.mv hst.still) ⟨Int.le_refl 0, show (0 : Int) ≤ 4096 by decide⟩ (by simp only; omega) (hr.mv hst.still) hcc)
        refine gp (r_bool (c := false) (r_nenil rfl (by kernel_rfl)) rfl) ?_
        refine gnt ?_
        refine gc_condF rfl rfl ?_
        refine gc_skip ?_
        refine gx_block_normal ?_
        refine gx_then ?_
        refine gc_region ?_
        refine gp zad ?_
        refine gp zmv ?_
        refine gl_nil ?_
        refine zrd ((k + 1, d2)) ?_ ?_
        · show l - (k + 1) < l - k
          omega
        · exact zlp (show k + 1 ≤ l ∧ Calm2 d2 from ⟨by omega, hd2⟩)
      · try simp only at hc53
        have hk' : k = l := by omega
        have hmx : c + k = 9223372036854775807 := by omega
        refine gc_exit ?_
        refine gx_then_exit ?_
        refine gx_round_exit ?_
        refine gx_block_hit ?_
        refine gx_then ?_
        refine gc_seq ?_
        refine gc_regionZ 18 [] ?_
        refine yps 0 rfl zmv ?_
        refine yps 1 rfl zmv ?_
        refine yos 2 rfl ?_
        refine zc (fun _ => ?_) (c := fun w1 F1 F2 h1 h2 hd hst => put_S (s := ⟨0, c + k, r⟩) (put_full hr31 hmx) h1 hd4.ok (hE.mv hst.still) (hK.mv hst.still) ⟨Int.le_refl 0, show (0 : Int) ≤ 4096 by decide⟩ (by simp only; omega) (hr.mv hst.still) hcc)
        refine yxs ?_
        refine yos 3 rfl ?_
        refine zc (fun _ => ?_) (c := fun w1 F1 F2 h1 h2 hd hst => errNum_ok (n := 8) h1 (hN.mv hst.still) (by decide))
        refine yxs ?_
        refine yps 4 rfl (r_bool (c := true) zei (decide_eq_true rfl)) ?_
        refine yps 5 rfl zmv ?_
        refine yps 6 rfl zmv ?_
        refine yos 7 rfl ?_
        refine zc (fun _ => ?_) (c := fun w1 F1 F2 h1 h2 hd hst => count_ok h1)
        refine yxs ?_
        refine yps 8 rfl (r_bool (c := true) zei (decide_eq_true (by simp only; omega))) ?_
        refine yps 9 rfl zpk ?_
        refine yps 10 rfl zmv ?_
        refine yps 11 rfl zmv ?_
        refine yps 14 rfl zmv ?_
        refine yps 15 rfl (r_str rfl Ty.sl_32 Ty.un_5 Ty.un_9 (fun w' hw => hw.rdOld hr)) ?_
        refine yos 12 rfl ?_
        refine zc (fun x71 => ?_) (c := fun w1 F1 F2 h1 h2 hd hst => record_ok (s := ⟨0, c + k, r⟩) h1 hr31)
        refine yxs ?_
        refine yos 13 rfl ?_
        refine gq zso ?_
        refine yxs ?_
        refine yps 16 rfl (r_bool (c := true) zes (decide_eq_true rfl)) ?_
        refine yps 17 rfl zpk ?_
        refine yzs rfl ?_
        refine gp zas ?_
        refine gnt ?_
        refine gc_ret ?_
        refine gx_ret1 rfl (by conv => lhs; whnf) ?_
        exact ze ()

set_option maxHeartbeats 400000 in
theorem slotsRanges_ok {w : World} {F : Nat → Prop} {n0 b n2 : Int} {ea : Nat → Addr} (h : stars [] w F) (hN : NErr w (fun k => ¬ F k) ea) (hK : KR w (fun k => ¬ F k)) :
    Calls Tryd.prog 7 #[.int .i64 n0, .int .i64 b, .int .i64 n2] w (Post w F (fun _ : Unit => .bool true) (fun _ => [])) := by
  have hE := hN.g
  obtain ⟨s0, hs0, hs6⟩ := u64_mod n0 (m := 6) (by decide)
  obtain ⟨l, hl, hl6⟩ := u64_mod n2 (m := 6) (by decide)
  obtain ⟨n, hn⟩ : ∃ n : Nat, n = 1 + s0 := ⟨_, rfl⟩
  have hfr : (dF n).right b = (dR n l).right b := rfl
  refine g_enter (env := [(0, .int .i64 n0), (1, .int .i64 b), (2, .int .i64 n2)]) Tryd.func7 rfl h Tryd.ntmps7 rfl rfl ?_
  refine gsr ?_
  refine gp zas ?_
  refine gnt ?_
  refine gc_seq ?_
  refine gsr ?_
  refine zc (fun _ => ?_) (c := fun w1 F1 F2 h1 h2 hd hst => alive07_ok h1 (hE.mv hst.still) (hK.mv hst.still))
  refine gp znt ?_
  refine gnt ?_
  refine gc_condF rfl rfl ?_
  refine gc_skip ?_
  refine gx_then ?_
  refine gsr ?_
  refine gp zmv ?_
  refine gp zci ?_
  refine gp (r_int zrm hs0) ?_
  refine gp (r_int (j := (s0 : Int)) zci (wrap_i64 (by omega) (by omega))) ?_
  refine gp (r_int (j := (n : Int)) zad (by omega)) ?_
  refine gp zmv ?_
  refine gp zci ?_
  refine gp (r_int zrm hl) ?_
  refine gp (r_int (j := (l : Int)) zci (wrap_i64 (by omega) (by omega))) ?_
  refine gp zas ?_
  refine gp zas ?_
  refine gnt ?_
  refine gsr ?_
  refine gp zmv ?_
  refine zc (fun g25 => ?_) (c := fun w1 F1 F2 h1 h2 hd hst => new_ok (n := n) (ea := ea) h1 (by omega) (by omega))
  refine gp zmv ?_
  refine gp zex ?_
  refine gp zex ?_
  refine gp zas ?_
  refine gp zas ?_
  refine gnt ?_
  refine gc_seq ?_
  refine gsr ?_
  refine gp zmv ?_
  refine gp (r_bool (c := false) (r_nenil rfl (by kernel_rfl)) rfl) ?_
  refine gnt ?_
  refine gc_condF rfl rfl ?_
  refine gc_skip ?_
  refine gx_then ?_
  refine gc_seq ?_
  by_cases hrt : (dF n).right b = true
  · have hrt2 : (dR n l).right b = true := hrt
    obtain ⟨hb0, hb1⟩ := right_iff.1 hrt
    replace hb1 : b < (n : Int) - 1 := hb1
    have hf := fmt_R hrt2
    refine gc_region ?_
    refine gp zmv ?_
    refine gp zmv ?_
    refine zc (fun _ => ?_) (c := fun w1 F1 F2 h1 h2 hd hst => open_Z (dF_opn n b) h1 (dF_ok (by omega)) rfl (hE.mv hst.still) (hK.mv hst.still) hrt)
    refine gp zmv ?_
    refine gp zex ?_
    refine gp zex ?_
    refine gp zas ?_
    refine gp zas ?_
    refine gnt ?_
    refine gsr ?_
    refine gp zmv ?_
    refine gp zmv ?_
    refine zc (fun _ => ?_) (c := fun w1 F1 F2 h1 h2 hd hst => arm_ok (d := dF n) (n := (l : Int)) h1)
    rw [dR_arm]
    refine gnt ?_
    refine gc_seq ?_
    by_cases hl3 : l < 3
    · obtain ⟨D6, h6⟩ : ∃ D, fmt (dR n l) b = (6, D) := ⟨_, Prod.ext (by rw [hf, if_pos hl3]) rfl⟩
      refine gc_region ?_
      refine gp zmv ?_
      refine gp zmv ?_
      refine zc (fun _ => ?_) (c := fun w1 F1 F2 h1 h2 hd hst => format_E h6 (by decide) h1 (dR_ok (by omega) (by omega)) (hE.mv hst.still) (hK.mv hst.still))
      refine gp zmv ?_
      refine gp zex ?_
      refine gp zex ?_
      refine gp zas ?_
      refine gp zas ?_
      refine gnt ?_
      refine gc_seq ?_
      refine gsr ?_
      refine gp zmv ?_
      refine gp (r_bool (c := false) zlt (decide_eq_false (by omega))) ?_
      refine gp zmv ?_
      refine gq zmv ?_
      refine gq zmv ?_
      refine gq zsb ?_
      refine gq (r_bool (c := false) zge (decide_eq_false (by omega))) ?_
      refine gp zpk ?_
      refine gnt ?_
      refine gc_condF rfl rfl ?_
      refine gc_skip ?_
      refine gx_then ?_
      refine gc_seq ?_
      refine gsr ?_
      refine gp zmv ?_
      refine zc (fun _ => ?_) (c := fun w1 F1 F2 h1 h2 hd hst => errNum_ok (n := 7) h1 (hN.mv hst.still) (by decide))
      refine gp (r_bool (c := false) zni rfl) ?_
      refine gnt ?_
      refine gc_condF rfl rfl ?_
      refine gc_skip ?_
      refine gx_then ?_
      refine gc_seq ?_
      refine gsr ?_
      refine gp zmv ?_
      refine gp (r_bool (c := true) zlt (decide_eq_true (by omega))) ?_
      refine gnt ?_
      refine gc_condT rfl rfl ?_
      refine gsr ?_
      refine gp zmv ?_
      refine gp (r_bool (c := true) (r_eqpn rfl Ty.un_29) rfl) ?_
      refine gp zmv ?_
      refine gq zmv ?_
      refine zc (fun _ => ?_) (c := fun w1 F1 F2 h1 h2 hd hst => errNum_ok (n := 6) h1 (hN.mv hst.still) (by decide))
      refine gq (r_bool (c := true) zei (decide_eq_true rfl)) ?_
      refine gp zpk ?_
      refine gp zas ?_
      refine gnt ?_
      refine gc_ret ?_
      refine gx_then_ret ?_
      refine gx_ret1 rfl (by conv => lhs; whnf) ?_
      exact ze ()
    · obtain ⟨D0, h0⟩ : ∃ D, fmt (dR n l) b = (0, D) := ⟨_, Prod.ext (by rw [hf, if_neg hl3]) rfl⟩
      refine gc_region ?_
      refine gp zmv ?_
      refine gp zmv ?_
      refine zc (fun g42 => ?_) (c := fun w1 F1 F2 h1 h2 hd hst => format_G h0 h1 (dR_ok (by omega) (by omega)) (hE.mv hst.still) (hK.mv hst.still))
      refine gp zmv ?_
      refine gp zex ?_
      refine gp zex ?_
      refine gp zas ?_
      refine gp zas ?_
      refine gnt ?_
      refine gc_seq ?_
      refine gsr ?_
      refine gp zmv ?_
      refine gp (r_bool (c := false) zlt (decide_eq_false (by omega))) ?_
      refine gp zmv ?_
      refine gq zmv ?_
      refine gq zmv ?_
      refine gq zsb ?_
      refine gq (r_bool (c := false) zge (decide_eq_false (by omega))) ?_
      refine gp zpk ?_
      refine gnt ?_
      refine gc_condF rfl rfl ?_
      refine gc_skip ?_
      refine gx_then ?_
      refine gc_seq ?_
      refine gsr ?_
      refine gp zmv ?_
      refine zc (fun _ => ?_) (c := fun w1 F1 F2 h1 h2 hd hst => errNum_ok (n := 7) h1 (hN.mv hst.still) (by decide))
      refine gp (r_bool (c := false) zni rfl) ?_
      refine gnt ?_
      refine gc_condF rfl rfl ?_
      refine gc_skip ?_
      refine gx_then ?_
      refine gc_seq ?_
      refine gsr ?_
      refine gp zmv ?_
      refine gp (r_bool (c := false) zlt (decide_eq_false (by omega))) ?_
      refine gnt ?_
      refine gc_condF rfl rfl ?_
      refine gc_skip ?_
      refine gx_then ?_
      refine gsr ?_
      refine gp zmv ?_
      refine gp (r_bool (c := true) (r_eqnil rfl (by kernel_rfl)) rfl) ?_
      refine gp zmv ?_
      refine gq zmv ?_
      refine gq (r_bool (c := true) (r_nepn rfl Ty.un_29) rfl) ?_
      refine gp zpk ?_
      refine gp zmv ?_
      refine gq zmv ?_
      refine zc (fun x85 => ?_) (c := fun w1 F1 F2 h1 h2 hd hst => record_ok (s := ⟨b, 0, []⟩) h1 (by simp))
      refine gq zln ?_
      refine gq (r_bool (c := true) zei (decide_eq_true rfl)) ?_
      refine gp zpk ?_
      refine gp zmv ?_
      refine gq zmv ?_
      refine zc (fun _ => ?_) (c := fun w1 F1 F2 h1 h2 hd hst => count_ok h1)
      refine gq (r_bool (c := true) zei (decide_eq_true rfl)) ?_
      refine gp zpk ?_
      refine gp zas ?_
      refine gnt ?_
      refine gc_ret ?_
      refine gx_ret1 rfl (by conv => lhs; whnf) ?_
      exact ze ()
  · have hrf : (dF n).right b = false := by simpa using hrt
    have hrf2 : (dR n l).right b = false := hrf
    have hnr : ¬ (0 ≤ b ∧ b < (n : Int) - 1) := fun hx => hrt (right_iff.2 hx)
    refine gc_region ?_
    refine gp zmv ?_
    refine gp zmv ?_
    refine zc (fun _ => ?_) (c := fun w1 F1 F2 h1 h2 hd hst => open_no (b := b) h1 (dF_ok (by omega)) (hE.mv hst.still) hrf)
    refine gp zmv ?_
    refine gp zex ?_
    refine gp zex ?_
    refine gp zas ?_
    refine gp zas ?_
    refine gnt ?_
    refine gsr ?_
    refine gp zmv ?_
    refine gp zmv ?_
    refine zc (fun _ => ?_) (c := fun w1 F1 F2 h1 h2 hd hst => arm_ok (d := dF n) (n := (l : Int)) h1)
    rw [dR_arm]
    refine gnt ?_
    refine gsr ?_
    refine gp zmv ?_
    refine gp zmv ?_
    refine zc (fun _ => ?_) (c := fun w1 F1 F2 h1 h2 hd hst => format_E (fmt_N hrf2) (by decide) h1 (dR_ok (by omega) (by omega)) (hE.mv hst.still) (hK.mv hst.still))
    refine gp zmv ?_
    refine gp zex ?_
    refine gp zex ?_
    refine gp zas ?_
    refine gp zas ?_
    refine gnt ?_
    refine gc_seq ?_
    refine gc_seq ?_
    by_cases hb0 : b < 0
    · refine gc_region ?_
      refine gp zmv ?_
      refine gp (r_bool (c := true) zlt (decide_eq_true hb0)) ?_
      refine gp zmv ?_
      refine gn ?_
      refine gn ?_
      refine gn ?_
      refine gn ?_
      refine gp zpk ?_
      refine gnt ?_
      refine gc_condT rfl rfl ?_
      refine gsr ?_
      refine gp zmv ?_
      refine gp (r_bool (c := true) (r_eqpn rfl Ty.un_29) rfl) ?_
      refine gp zmv ?_
      refine gq zmv ?_
      refine zc (fun _ => ?_) (c := fun w1 F1 F2 h1 h2 hd hst => errNum_ok (n := 1) h1 (hN.mv hst.still) (by decide))
      refine gq (r_bool (c := true) zei (decide_eq_true rfl)) ?_
      refine gp zpk ?_
      refine gp zmv ?_
      refine gq zmv ?_
      refine zc (fun _ => ?_) (c := fun w1 F1 F2 h1 h2 hd hst => errNum_ok (n := 1) h1 (hN.mv hst.still) (by decide))
      refine gq (r_bool (c := true) zei (decide_eq_true rfl)) ?_
      refine gp zpk ?_
      refine gp zas ?_
      refine gnt ?_
      refine gc_ret ?_
      refine gx_then_ret ?_
      refine gx_ret1 rfl (by conv => lhs; whnf) ?_
      exact ze ()
    · refine gc_region ?_
      refine gp zmv ?_
      refine gp (r_bool (c := false) zlt (decide_eq_false hb0)) ?_
      refine gp zmv ?_
      refine gq zmv ?_
      refine gq zmv ?_
      refine gq zsb ?_
      refine gq (r_bool (c := true) zge (decide_eq_true (by omega))) ?_
      refine gp zpk ?_
      refine gnt ?_
      refine gc_condT rfl rfl ?_
      refine gsr ?_
      refine gp zmv ?_
      refine gp (r_bool (c := true) (r_eqpn rfl Ty.un_29) rfl) ?_
      refine gp zmv ?_
      refine gq zmv ?_
      refine zc (fun _ => ?_) (c := fun w1 F1 F2 h1 h2 hd hst => errNum_ok (n := 1) h1 (hN.mv hst.still) (by decide))
      refine gq (r_bool (c := true) zei (decide_eq_true rfl)) ?_
      refine gp zpk ?_
      refine gp zmv ?_
      refine gq zmv ?_
      refine zc (fun _ => ?_) (c := fun w1 F1 F2 h1 h2 hd hst => errNum_ok (n := 1) h1 (hN.mv hst.still) (by decide))
      refine gq (r_bool (c := true) zei (decide_eq_true rfl)) ?_
      refine gp zpk ?_
      refine gp zas ?_
      refine gnt ?_
      refine gc_ret ?_
      refine gx_then_ret ?_
      refine gx_ret1 rfl (by conv => lhs; whnf) ?_
      exact ze ()

end Go.Proofs.YtffkjjakceojfaaDoor

/- The shell, part J: the hash's constants; rows of rows of bytes. -/
namespace Go.Proofs.YtffkjjakceojfaaDoor
open Go
open Go.ChangeShapes Go.WideShapes Go.RowKit
set_option linter.unusedVariables false
theorem laid_kr {W : World} {r : List (String × DataW Unit)} (h : laidMet Tryd.prog (("quorate/hash.constants", Lib.tabData .u32 (kc.map fun x => (x.toNat : Int))) :: r) W) : KR W (fun k => ¬ (fun _ : Nat => False) k) := by
  have hT := Lib.tabIs_of_head (g := 18) (by kernel_rfl) (by kernel_rfl) (run_arrT Ty.arr_100) Ty.un_93 (by kernel_rfl) (by kernel_rfl) h
  refine ⟨fun i hi => ?_, id⟩
  have := World.var?_cell (g := 18) (by kernel_rfl) hT i
  rw [this]
  have hk : i < kc.length := hi
  simp only [List.map_map, List.getElem?_toArray, List.getElem?_map, List.getElem?_eq_getElem hk, Option.map_some]
  simp [W32, Kc, List.getD, List.getElem?_eq_getElem hk]
theorem RdRowC.le {α : Type} {V : α → Value} {w : World} {A : Nat → Prop} {a : Option Addr} {n c : Nat} {l : List α} (h : RdRowC V w A [.slice a n c] l) : n ≤ c := by
  obtain ⟨a', n', c', e, hle, _⟩ := h
  injection e with e _
  injection e with e1 e2 e3
  subst e2; subst e3
  exact hle
def RdLists (w : World) (A : Nat → Prop) (cs : List Value) (l : List (List UInt8)) : Prop := ∃ a n c, cs = [.slice a n c] ∧ n ≤ c ∧ RdList (RdBytes w A) w A 1 a n l
theorem RdLists.list {w : World} {A : Nat → Prop} {a : Option Addr} {n c : Nat} {l : List (List UInt8)} (h : RdLists w A [.slice a n c] l) : RdList (RdBytes w A) w A 1 a n l := by
  obtain ⟨a', n', c', e, _, hr⟩ := h
  injection e with e _
  injection e with e1 e2 e3
  subst e1; subst e2
  exact hr
section
variable {H : Type} {enc : TypeId × Value → H} {w : World} {base : Nat} {sp : Nat → Bool} {held : Bool}
theorem o_rlists : Opens enc Tryd.prog w base sp held 22 (RdLists w TT) := opens_slice (s := 1) Ty.sl_22 Ty.sz_32 (by decide) (opens_bytes Ty.sl_32 Ty.sz_5 Ty.un_5)
end
end Go.Proofs.YtffkjjakceojfaaDoor

