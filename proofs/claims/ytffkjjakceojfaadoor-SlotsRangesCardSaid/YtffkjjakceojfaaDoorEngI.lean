/- The engine, part I: digests and strings held against one another, bytes as a string. -/
import Derived.Test.YtffkjjakceojfaaDoorEngH
import Derived.ChangeKeysEq
namespace Go.Proofs.YtffkjjakceojfaaDoor
open Go
set_option linter.unusedVariables false
set_option linter.unusedSimpArgs false

theorem run_eqItems8 {P : Program} {e : TypeId} {d : Nat} (he : P.underlying e = some (.int .u8)) (a b : List UInt8) (w : World) : ∀ (is : List Nat), (∀ i ∈ is, i < a.length ∧ i < b.length) →
    (Op.eqItems (d + 1) e 1 (a.map B8).toArray (b.map B8).toArray is).run P w = .ok (is.all fun i => a[i]? == b[i]?) w
  | [], _ => by simp [Op.eqItems]
  | i :: is, h => by
    obtain ⟨h1, h2⟩ := h i (by simp)
    have ih := run_eqItems8 (d := d) he a b w is (fun j hj => h j (by simp [hj]))
    have hr : rowT P e = some false := by simp [rowT, he]
    have p1 := run_part1 (P := P) (T := e) (off := i * 1) (cs := a.map B8) (v := B8 a[i]) hr (by simp [h1]) w
    have p2 := run_part1 (P := P) (T := e) (off := i * 1) (cs := b.map B8) (v := B8 b[i]) hr (by simp [h2]) w
    have p3 : (Op.equalIn (d + 1) e (B8 a[i]) (B8 b[i])).run P w = .ok (a[i] == b[i]) w := by
      rw [show B8 a[i] = .int .u8 (a[i].toNat : Int) from rfl, show B8 b[i] = .int .u8 (b[i].toNat : Int) from rfl, run_equalIn_int w d e .u8 .u8 _ _ he]
      congr 1
      rw [Bool.eq_iff_iff]; simp only [beq_iff_eq]
      exact ⟨fun hh => UInt8.toNat_inj.1 (by omega), fun hh => by rw [hh]⟩
    simp only [Op.eqItems, Sem.run_bind, p1, p2, p3, Result.andThen_ok]
    by_cases hab : a[i] = b[i]
    · simp [hab, ih, h1, h2]
    · simp [hab, h1, h2]
theorem all_range_eq {a b : List UInt8} {n : Nat} (ha : a.length = n) (hb : b.length = n) : ((List.range n).all fun i => a[i]? == b[i]?) = decide (a = b) := by
  rw [Bool.eq_iff_iff, List.all_eq_true]
  simp only [List.mem_range, beq_iff_eq, decide_eq_true_eq]
  refine ⟨fun h => List.ext_getElem? fun i => ?_, fun h i _ => by rw [h]⟩
  by_cases hi : i < n
  · exact h i hi
  · rw [List.getElem?_eq_none (by omega), List.getElem?_eq_none (by omega)]
theorem dig_dec (a b : Dig) : decide (a.l = b.l) = decide (a = b) := by
  by_cases h : a = b
  · simp [h]
  · simp [h]; exact fun e => h (Dig.ext' e)

def str (b : List UInt8) : ByteArray := ⟨b.toArray⟩
theorem str_toList (b : List UInt8) : (str b).toList = b := by rw [ByteArray.toList_eq]; rfl
theorem str_eq (a b : List UInt8) : ((str a).toList == (str b).toList) = decide (a = b) := by
  rw [str_toList, str_toList, Bool.eq_iff_iff]; simp
theorem str_size (b : List UInt8) : (str b).size = b.length := by simp [str, ByteArray.size]
theorem str_push (s : List UInt8) : ∀ (b : List UInt8), (b.map fun x => (x.toNat : Int)).foldl (fun r n => r.push (UInt8.ofNat n.toNat)) (str s) = str (s ++ b)
  | [] => by simp
  | x :: b => by
    have h : (str s).push (UInt8.ofNat (x.toNat : Int).toNat) = str (s ++ [x]) := by
      rw [Int.toNat_natCast, UInt8.ofNat_toNat]
      simp [str, ByteArray.push]
    simp only [List.map_cons, List.foldl_cons, h]
    rw [str_push (s ++ [x]) b]; simp
section
variable {P : Program} {w0 : World} {F0 : Nat → Prop} {L : List Res} {Q : Exit → Act → World → Prop} {n : Nat} {env : Env} {ops : Array Oper} {rest : List Oper}
variable {d : Option Tmp} {ty : TypeId} {pos : String} {af : Array Edge} {gd : Option (Nat × Bool)}
theorem run_equal_dig {T e : TypeId} {w : World} {a b : Dig} (ht : arrT P T = some (16, e)) (he : P.underlying e = some (.int .u8)) (hs : szT P e = some 1) : (Op.equalIn 10000 T (.agg (dc a).toArray) (.agg (dc b).toArray)).run P w = .ok (decide (a = b)) w := by
  cases hi : P.info? e with
  | none => simp [szT, hi] at hs
  | some i =>
    have hz : i.size = 1 := by simpa [szT, hi] using hs
    have hc : P.cellsOf e = 1 := by simp [Program.cellsOf, hi, hz]
    rw [run_equalIn_array w 9999 _ _ (run_arrT ht) hi, hc]
    rw [show dc a = a.l.map B8 from rfl, show dc b = b.l.map B8 from rfl, run_eqItems8 (d := 9998) he a.l b.l w _ (fun i hi => by have := List.mem_range.1 hi; rw [a.h, b.h]; omega), all_range_eq a.h b.h, dig_dec]
theorem r_eql_dig {x y : Operand} {T T' e : TypeId} {a b : Dig} (hx : ev n env x = .agg (dc a).toArray) (hy : ev n env y = .agg (dc b).toArray) (ht : arrT P T = some (16, e)) (he : P.underlying e = some (.int .u8)) (hs : szT P e = some 1) (hg : P.eqGuardType P.depth T = false) :
    Runs P w0 F0 L n env ⟨d, .binOp .eql T x y T', ty, pos, af, gd⟩ (.bool (decide (a = b))) := fun w _ => by
  simp only [execOp, hx, hy, Sem.run_bind, run_eqGuard_agg w _ _ _ _ _ _ hg, Result.andThen_ok, run_eql_struct, run_equal_dig ht he hs, Sem.run_pure]
theorem r_neq_dig {x y : Operand} {T T' e : TypeId} {a b : Dig} (hx : ev n env x = .agg (dc a).toArray) (hy : ev n env y = .agg (dc b).toArray) (ht : arrT P T = some (16, e)) (he : P.underlying e = some (.int .u8)) (hs : szT P e = some 1) (hg : P.eqGuardType P.depth T = false) :
    Runs P w0 F0 L n env ⟨d, .binOp .neq T x y T', ty, pos, af, gd⟩ (.bool (!decide (a = b))) := fun w _ => by
  simp only [execOp, hx, hy, Sem.run_bind, run_eqGuard_agg w _ _ _ _ _ _ hg, Result.andThen_ok, run_neq_struct, run_equal_dig ht he hs, Sem.run_pure]
theorem r_eql_bool {x y : Operand} {T T' : TypeId} {a b : Bool} (hx : ev n env x = .bool a) (hy : ev n env y = .bool b) (ht : P.underlying T = some .bool) :
    Runs P w0 F0 L n env ⟨d, .binOp .eql T x y T', ty, pos, af, gd⟩ (.bool (a == b)) := fun w _ => by
  have h := run_equalIn_bool' (P := P) w 9999 T a b ht
  simp only [execOp, hx, hy]
  simp [eqGuard, binOp, Op.equal, Op.maxDepth, h]
theorem r_eql_str {x y : Operand} {T T' : TypeId} {a b : List UInt8} (hx : ev n env x = .string (str a)) (hy : ev n env y = .string (str b)) :
    Runs P w0 F0 L n env ⟨d, .binOp .eql T x y T', ty, pos, af, gd⟩ (.bool (decide (a = b))) := fun w _ => by
  simp only [execOp, hx, hy]
  simp [eqGuard, binOp_string_eql, str_toList]
  by_cases h : a = b <;> simp [h]
theorem r_neq_str {x y : Operand} {T T' : TypeId} {a b : List UInt8} (hx : ev n env x = .string (str a)) (hy : ev n env y = .string (str b)) :
    Runs P w0 F0 L n env ⟨d, .binOp .neq T x y T', ty, pos, af, gd⟩ (.bool (!decide (a = b))) := fun w _ => by
  simp only [execOp, hx, hy]
  simp [eqGuard, binOp_string_neq, str_toList]
  by_cases h : a = b <;> simp [h]
/-- Bytes as a string. -/
theorem r_str {x : Operand} {S T e : TypeId} {a : Option Addr} {m c : Nat} {b : List UInt8} (hx : ev n env x = .slice a m c) (hs : sliceT P S = some e) (he : P.underlying e = some (.int .u8)) (hd : P.underlying T = some .string)
    (hr : ∀ w, St w0 F0 L w → RdRow w (fun _ => True) 1 a m (b.map B8)) : Runs P w0 F0 L n env ⟨d, .convert S T x, ty, pos, af, gd⟩ (.string (str b)) := fun w hw => by
  have h := hr w hw
  have hl : m = b.length := by have := h.1; simp at this; omega
  have hgo : (Conv.bytesToString (.slice a m c)).run P w = .ok (.string (str b)) w := by
    cases a with
    | none =>
      have hm : m = 0 := by
        rcases Nat.eq_zero_or_pos m with h0 | h0
        · exact h0
        · obtain ⟨_, _, ha, _⟩ := h.2.2 h0; cases ha
      have hb : b = [] := List.eq_nil_of_length_eq_zero (by omega)
      subst hb
      simp [Conv.bytesToString]; rfl
    | some p =>
      have hload : (loadCells p m).run P w = .ok ((b.map fun x => (x.toNat : Int)).map (Value.int .u8)).toArray w := by
        have e1 : (b.map fun x => (x.toNat : Int)).map (Value.int .u8) = b.map B8 := by simp [B8, Function.comp_def]
        rw [e1]
        have hl2 : m = (b.map B8).length := by simpa using hl
        rw [hl2]
        rcases Nat.eq_zero_or_pos m with h0 | h0
        · have hb : b = [] := List.eq_nil_of_length_eq_zero (by omega)
          subst hb
          exact run_loadCells_list (P := P) w p [] (fun j v hv => by simp at hv)
        · obtain ⟨g, o, ha, _, _, hra⟩ := h.2.2 h0
          cases ha
          exact run_loadCells_list (P := P) w _ _ (fun j v hv => by rw [Addr.add_mid]; exact hra j v hv)
      rw [run_bytesToString w p m c _ hload]
      have := str_push [] b
      simp only [List.nil_append] at this
      rw [← this]; rfl
  simp only [execOp, hx, run_convert_bytes_string w _ _ _ _ _ _ (run_sliceT hs) he hd, hgo, Sem.run_bind, Result.andThen_ok, Sem.run_pure]
end
end Go.Proofs.YtffkjjakceojfaaDoor
