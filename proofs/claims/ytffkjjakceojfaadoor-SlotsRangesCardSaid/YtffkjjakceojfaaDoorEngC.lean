/- The engine, part C: the rules of the operations: numbers, copies, memory of one's own. -/
import Derived.Test.YtffkjjakceojfaaDoorEngB
namespace Go.Proofs.YtffkjjakceojfaaDoor
open Go
set_option linter.unusedVariables false
set_option linter.unusedSimpArgs false

section ops
variable {P : Program} {w0 : World} {F0 : Nat → Prop} {L : List Res} {Q : Exit → Act → World → Prop} {n : Nat} {env : Env} {ops : Array Oper} {rest : List Oper}
variable {d : Option Tmp} {ty : TypeId} {pos : String} {af : Array Edge} {gd : Option (Nat × Bool)}

/-! ### Copies and numbers -/
theorem r_move {x : Operand} {v : Value} (hx : ev n env x = v) : Runs P w0 F0 L n env ⟨d, .move x, ty, pos, af, gd⟩ v := fun w _ => by simp [execOp, hx]
theorem r_assign {x : Operand} {v : Value} (hx : ev n env x = v) : Runs P w0 F0 L n env ⟨d, .assign x, ty, pos, af, gd⟩ v := fun w _ => by simp [execOp, hx]
theorem r_pick {c x y : Operand} {b : Bool} {v : Value} (hc : ev n env c = .bool b) (hv : (bif b then ev n env x else ev n env y) = v) : Runs P w0 F0 L n env ⟨d, .pick c x y, ty, pos, af, gd⟩ v := fun w _ => by
  cases b <;> simp at hv <;> simp [execOp, hc, hv, asBool]
theorem r_nilCheck {x : Operand} {a : Addr} (hx : ev n env x = .pointer (some a)) : Runs P w0 F0 L n env ⟨d, .nilCheck x, ty, pos, af, gd⟩ (.pointer (some a)) := fun w _ => by simp [execOp, hx]
theorem r_not {x : Operand} {T : TypeId} {b : Bool} (hx : ev n env x = .bool b) : Runs P w0 F0 L n env ⟨d, .unOp .not T x, ty, pos, af, gd⟩ (.bool (!b)) := fun w _ => by simp [execOp, hx, Op.unary]
theorem r_extract {x : Operand} {i : Nat} {vs : Array Value} {v : Value} (hx : ev n env x = .tuple vs) (hv : vs[i]? = some v) : Runs P w0 F0 L n env ⟨d, .extract x i, ty, pos, af, gd⟩ v := fun w _ => by
  simp [execOp, hx, Instr.extract, hv]
theorem r_makeInterface {x : Operand} {T : TypeId} {v : Value} {dsc : TypeDesc} (hx : ev n env x = v) (hu : P.underlying T = some dsc) (hn : (match dsc with | .interface _ => false | _ => true) = true) :
    Runs P w0 F0 L n env ⟨d, .makeInterface T x, ty, pos, af, gd⟩ (.iface T v) := fun w _ => by
  simp only [execOp, hx, Instr.makeInterface, Sem.run_bind, run_underlying hu, Result.andThen_ok]
  cases dsc <;> simp_all
theorem r_makeFunc {f : Fn} {fs cs : Array Operand} {vs us : Array Value} (hf : fs.map (ev n env) = vs) (hc : cs.map (ev n env) = us) : Runs P w0 F0 L n env ⟨d, .makeFunc f fs cs, ty, pos, af, gd⟩ (.func f vs us) := fun w _ => by
  simp [execOp, hf, hc, Instr.makeFunc]

theorem r_bin {op : BinOp} {T T' : TypeId} {x y : Operand} {k : IntKind} {i j : Int} {v : Value} (hop : (match op with | .shl | .shr | .eql | .neq => false | _ => true) = true)
    (hx : ev n env x = .int k i) (hy : ev n env y = .int k j) (hr : ∀ w : World, (match op with
      | .add | .sub | .mul => Op.intArith op k i j
      | .quo | .rem => Op.intDiv op k i j
      | .and | .or | .xor | .andNot => Op.intBits op k i j
      | _ => Op.intCmp op i j).run P w = .ok v w) : Runs P w0 F0 L n env ⟨d, .binOp op T x y T', ty, pos, af, gd⟩ v := fun w _ => by
  have := hr w
  cases op <;> simp at hop <;> simp [execOp, hx, hy, eqGuard, binOp] at * <;> rw [this] <;> rfl
theorem r_add {T T' : TypeId} {x y : Operand} {k : IntKind} {i j : Int} (hx : ev n env x = .int k i) (hy : ev n env y = .int k j) : Runs P w0 F0 L n env ⟨d, .binOp .add T x y T', ty, pos, af, gd⟩ (.int k (k.wrap (i + j))) := r_bin rfl hx hy fun _ => rfl
theorem r_sub {T T' : TypeId} {x y : Operand} {k : IntKind} {i j : Int} (hx : ev n env x = .int k i) (hy : ev n env y = .int k j) : Runs P w0 F0 L n env ⟨d, .binOp .sub T x y T', ty, pos, af, gd⟩ (.int k (k.wrap (i - j))) := r_bin rfl hx hy fun _ => rfl
theorem r_mul {T T' : TypeId} {x y : Operand} {k : IntKind} {i j : Int} (hx : ev n env x = .int k i) (hy : ev n env y = .int k j) : Runs P w0 F0 L n env ⟨d, .binOp .mul T x y T', ty, pos, af, gd⟩ (.int k (k.wrap (i * j))) := r_bin rfl hx hy fun _ => rfl
theorem r_arith {op : BinOp} {T T' : TypeId} {x y : Operand} {k : IntKind} {i j m : Int} (hx : ev n env x = .int k i) (hy : ev n env y = .int k j)
    (h : (match op with | .add => k.wrap (i + j) = m | .sub => k.wrap (i - j) = m | .mul => k.wrap (i * j) = m | _ => False)) : Runs P w0 F0 L n env ⟨d, .binOp op T x y T', ty, pos, af, gd⟩ (.int k m) := by
  cases op <;> simp at h <;> subst h
  · exact r_add hx hy
  · exact r_sub hx hy
  · exact r_mul hx hy
theorem r_quo {T T' : TypeId} {x y : Operand} {k : IntKind} {i j : Int} (hx : ev n env x = .int k i) (hy : ev n env y = .int k j) (hj : j ≠ 0) : Runs P w0 F0 L n env ⟨d, .binOp .quo T x y T', ty, pos, af, gd⟩ (.int k (k.wrap (i.tdiv j))) :=
  r_bin rfl hx hy fun _ => by simp [Op.intDiv, hj]
theorem r_rem {T T' : TypeId} {x y : Operand} {k : IntKind} {i j : Int} (hx : ev n env x = .int k i) (hy : ev n env y = .int k j) (hj : j ≠ 0) : Runs P w0 F0 L n env ⟨d, .binOp .rem T x y T', ty, pos, af, gd⟩ (.int k (i.tmod j)) :=
  r_bin rfl hx hy fun _ => by simp [Op.intDiv, hj]
def bitop (op : BinOp) (k : IntKind) (i j : Int) : Int := match op with
  | .and => k.wrap (BitVec.ofInt k.bits i &&& BitVec.ofInt k.bits j).toNat
  | .or => k.wrap (BitVec.ofInt k.bits i ||| BitVec.ofInt k.bits j).toNat
  | .xor => k.wrap (BitVec.ofInt k.bits i ^^^ BitVec.ofInt k.bits j).toNat
  | _ => k.wrap (BitVec.ofInt k.bits i &&& ~~~ BitVec.ofInt k.bits j).toNat
theorem r_bits {op : BinOp} {T T' : TypeId} {x y : Operand} {k : IntKind} {i j : Int} (hop : (match op with | .and | .or | .xor | .andNot => true | _ => false) = true)
    (hx : ev n env x = .int k i) (hy : ev n env y = .int k j) : Runs P w0 F0 L n env ⟨d, .binOp op T x y T', ty, pos, af, gd⟩ (.int k (bitop op k i j)) := by
  cases op <;> simp at hop <;> exact r_bin rfl hx hy fun _ => rfl
theorem r_lss {T T' : TypeId} {x y : Operand} {k : IntKind} {i j : Int} (hx : ev n env x = .int k i) (hy : ev n env y = .int k j) : Runs P w0 F0 L n env ⟨d, .binOp .lss T x y T', ty, pos, af, gd⟩ (.bool (decide (i < j))) := r_bin rfl hx hy fun _ => rfl
theorem r_leq {T T' : TypeId} {x y : Operand} {k : IntKind} {i j : Int} (hx : ev n env x = .int k i) (hy : ev n env y = .int k j) : Runs P w0 F0 L n env ⟨d, .binOp .leq T x y T', ty, pos, af, gd⟩ (.bool (decide (i ≤ j))) := r_bin rfl hx hy fun _ => rfl
theorem r_gtr {T T' : TypeId} {x y : Operand} {k : IntKind} {i j : Int} (hx : ev n env x = .int k i) (hy : ev n env y = .int k j) : Runs P w0 F0 L n env ⟨d, .binOp .gtr T x y T', ty, pos, af, gd⟩ (.bool (decide (j < i))) := r_bin rfl hx hy fun _ => rfl
theorem r_geq {T T' : TypeId} {x y : Operand} {k : IntKind} {i j : Int} (hx : ev n env x = .int k i) (hy : ev n env y = .int k j) : Runs P w0 F0 L n env ⟨d, .binOp .geq T x y T', ty, pos, af, gd⟩ (.bool (decide (j ≤ i))) := r_bin rfl hx hy fun _ => rfl
theorem r_eql_int {T T' : TypeId} {x y : Operand} {k : IntKind} {i j : Int} (hx : ev n env x = .int k i) (hy : ev n env y = .int k j) : Runs P w0 F0 L n env ⟨d, .binOp .eql T x y T', ty, pos, af, gd⟩ (.bool (decide (i = j))) := fun w _ => by
  simp [execOp, hx, hy, eqGuard, binOp, Op.intCmp]; rfl
theorem r_neq_int {T T' : TypeId} {x y : Operand} {k : IntKind} {i j : Int} (hx : ev n env x = .int k i) (hy : ev n env y = .int k j) : Runs P w0 F0 L n env ⟨d, .binOp .neq T x y T', ty, pos, af, gd⟩ (.bool (!decide (i = j))) := fun w _ => by
  simp [execOp, hx, hy, eqGuard, binOp, Op.intCmp, bne]; rfl
theorem r_shl {T T' : TypeId} {x y : Operand} {k k' : IntKind} {i j : Int} (hx : ev n env x = .int k i) (hy : ev n env y = .int k' j) (hj : 0 ≤ j) :
    Runs P w0 F0 L n env ⟨d, .binOp .shl T x y T', ty, pos, af, gd⟩ (.int k (k.wrap (i * 2 ^ (min j.toNat k.bits)))) := fun w _ => by
  simp [execOp, hx, hy, eqGuard, binOp, Op.shift, Int.not_lt.2 hj]
theorem r_shr {T T' : TypeId} {x y : Operand} {k k' : IntKind} {i j : Int} (hx : ev n env x = .int k i) (hy : ev n env y = .int k' j) (hj : 0 ≤ j) :
    Runs P w0 F0 L n env ⟨d, .binOp .shr T x y T', ty, pos, af, gd⟩ (.int k (i.fdiv (2 ^ (min j.toNat k.bits)))) := fun w _ => by
  simp [execOp, hx, hy, eqGuard, binOp, Op.shift, Int.not_lt.2 hj]
theorem r_conv_int {S T : TypeId} {x : Operand} {k k' : IntKind} {i : Int} {ds : TypeDesc} (hx : ev n env x = .int k i) (hs : P.underlying S = some ds) (ht : P.underlying T = some (.int k')) :
    Runs P w0 F0 L n env ⟨d, .convert S T x, ty, pos, af, gd⟩ (.int k' (k'.wrap i)) := fun w _ => by
  simp only [execOp, hx, convert, Sem.run_bind, run_underlying hs, run_underlying ht, Result.andThen_ok]
  cases ds <;> simp [Conv.intToInt]
theorem r_len_slice {x : Operand} {T e : TypeId} {a : Option Addr} {m c : Nat} (hx : ev n env x = .slice a m c) (ht : sliceT P T = some e) :
    Runs P w0 F0 L n env ⟨d, .call ⟨.builtin .len, #[x], #[T]⟩, ty, pos, af, gd⟩ (.int .i64 m) := fun w _ => by
  simp [execOp, resolve, invoke, builtin, Builtin.len_, hx, run_underlying (run_sliceT ht), goInt]
theorem r_len_string {x : Operand} {T : TypeId} {s : ByteArray} (hx : ev n env x = .string s) (ht : P.underlying T = some .string) :
    Runs P w0 F0 L n env ⟨d, .call ⟨.builtin .len, #[x], #[T]⟩, ty, pos, af, gd⟩ (.int .i64 s.size) := fun w _ => by
  simp [execOp, resolve, invoke, builtin, Builtin.len_, hx, run_underlying ht, goInt]

/-! ### Places -/
theorem r_fieldAddr {x : Operand} {s f : Nat} {g o k : Nat} (hx : ev n env x = .pointer (some ⟨g, o, none⟩)) (hf : foff P s f = some k) :
    Runs P w0 F0 L n env ⟨d, .fieldAddr s x f, ty, pos, af, gd⟩ (.pointer (some ⟨g, o + k, none⟩)) := fun w _ => by
  unfold foff at hf
  cases hu : P.underlying s with
  | none => simp [hu] at hf
  | some dsc =>
    cases dsc <;> simp [hu] at hf
    rename_i fs
    cases hfl : fs[f]? with
    | none => simp [hfl] at hf
    | some x' =>
      simp only [hfl, Option.bind_some] at hf
      cases hi : P.info? x'.type with
      | none => simp [hi] at hf
      | some i =>
        simp [hi] at hf
        obtain ⟨h0, hk⟩ := hf
        have hz : (sizeOf x'.type).run P w = .ok i.size w := run_sz (by simp [szT, hi])
        simp only [execOp, hx, Instr.fieldAt, Sem.run_bind, run_underlying hu, Result.andThen_ok, hfl, Instr.sureAddr, Sem.run_pure, fieldPlace, hz, h0, if_false, hk]
        simp [Addr.add_mid]
theorem r_indexAddr_slice {x y : Operand} {T e : TypeId} {g o m c s : Nat} {k : IntKind} {i : Int} (hx : ev n env x = .slice (some ⟨g, o, none⟩) m c) (hy : ev n env y = .int k i) (ht : sliceT P T = some e) (hs : szT P e = some s)
    (h0 : 0 ≤ i) (hm : i < m) : Runs P w0 F0 L n env ⟨d, .indexAddr T x y, ty, pos, af, gd⟩ (.pointer (some ⟨g, o + i.toNat * s, none⟩)) := fun w _ => by
  simp only [execOp, hx, hy, Instr.indexAt, asIntOf, Sem.run_bind, Sem.run_pure, Result.andThen_ok, run_underlying (run_sliceT ht)]
  simp [h0, hm, run_sz hs, Addr.add_mid]
theorem r_indexAddr_arr {x y : Operand} {T e : TypeId} {g o m s : Nat} {k : IntKind} {i : Int} (hx : ev n env x = .pointer (some ⟨g, o, none⟩)) (hy : ev n env y = .int k i) (ht : arrT P T = some (m, e)) (hs : szT P e = some s)
    (h0 : 0 ≤ i) (hm : i < m) : Runs P w0 F0 L n env ⟨d, .indexAddr T x y, ty, pos, af, gd⟩ (.pointer (some ⟨g, o + i.toNat * s, none⟩)) := fun w _ => by
  simp only [execOp, hx, hy, Instr.indexAt, asIntOf, Sem.run_bind, Sem.run_pure, Result.andThen_ok, run_underlying (run_arrT ht), Instr.sureAddr]
  simp [h0, hm, run_sz hs, Addr.add_mid]
/-- xs[lo:hi] of a slice. -/
theorem r_slice_slice {x : Operand} {T e : TypeId} {lo hi : Option Operand} {a : Option Addr} {m c s l h : Nat} (hx : ev n env x = .slice a m c) (ht : sliceT P T = some e) (hs : szT P e = some s)
    (hlo : (match lo with | none => l = 0 | some y => ∃ k, ev n env y = .int k l)) (hhi : (match hi with | none => h = m | some y => ∃ k, ev n env y = .int k h)) (h1 : l ≤ h) (h2 : h ≤ c) :
    Runs P w0 F0 L n env ⟨d, .slice T x lo hi none, ty, pos, af, gd⟩ (.slice (if c = l then a else a.map (·.add (l * s))) (h - l) (c - l)) := fun w _ => by
  have e1 : (Instr.sliceBounds true m c (lo.map (ev n env)) (hi.map (ev n env)) none).run P w = .ok (l, h, c) w := by
    unfold Instr.sliceBounds
    cases hi with
    | none =>
      simp only at hhi; subst hhi
      cases lo with
      | none => simp only at hlo; subst hlo; simp
      | some y =>
        obtain ⟨k, hk⟩ := hlo
        have : (0:Int) ≤ l ∧ (l:Int) ≤ h := ⟨by omega, by omega⟩
        simp [hk, Instr.sliceBound, asIntOf, h1, Nat.not_lt.2 h1]
    | some z =>
      obtain ⟨k', hk'⟩ := hhi
      have hc : (0:Int) ≤ h ∧ (h:Int) ≤ c := ⟨by omega, by omega⟩
      cases lo with
      | none => simp only at hlo; subst hlo; simp [hk', Instr.sliceBound, asIntOf, h2, Nat.not_lt.2 h2]
      | some y =>
        obtain ⟨k, hk⟩ := hlo
        have : (0:Int) ≤ l ∧ (l:Int) ≤ h := ⟨by omega, by omega⟩
        simp [hk, hk', Instr.sliceBound, asIntOf, h1, h2, Nat.not_lt.2 h1, Nat.not_lt.2 h2]
  simp [execOp, hx, Instr.sliceAt, run_underlying (run_sliceT ht), Instr.slice, e1, run_sz hs]
/-- A whole array by its address: arr[:]. -/
theorem r_slice_arr {x : Operand} {T e : TypeId} {lo hi : Option Operand} {g o m s l h : Nat} (hx : ev n env x = .pointer (some ⟨g, o, none⟩)) (ht : arrT P T = some (m, e)) (hs : szT P e = some s)
    (hlo : (match lo with | none => l = 0 | some y => ∃ k, ev n env y = .int k l)) (hhi : (match hi with | none => h = m | some y => ∃ k, ev n env y = .int k h)) (h1 : l ≤ h) (h2 : h ≤ m) (h3 : l < m) :
    Runs P w0 F0 L n env ⟨d, .slice T x lo hi none, ty, pos, af, gd⟩ (.slice (some ⟨g, o + l * s, none⟩) (h - l) (m - l)) := fun w _ => by
  have e1 : (Instr.sliceBounds false m m (lo.map (ev n env)) (hi.map (ev n env)) none).run P w = .ok (l, h, m) w := by
    unfold Instr.sliceBounds
    cases hi with
    | none =>
      simp only at hhi; subst hhi
      cases lo with
      | none => simp only at hlo; subst hlo; simp
      | some y =>
        obtain ⟨k, hk⟩ := hlo
        have : (0:Int) ≤ l ∧ (l:Int) ≤ h := ⟨by omega, by omega⟩
        simp [hk, Instr.sliceBound, asIntOf, h1, Nat.not_lt.2 h1]
    | some z =>
      obtain ⟨k', hk'⟩ := hhi
      have hc : (0:Int) ≤ h ∧ (h:Int) ≤ m := ⟨by omega, by omega⟩
      cases lo with
      | none => simp only at hlo; subst hlo; simp [hk', Instr.sliceBound, asIntOf, h2, Nat.not_lt.2 h2]
      | some y =>
        obtain ⟨k, hk⟩ := hlo
        have : (0:Int) ≤ l ∧ (l:Int) ≤ h := ⟨by omega, by omega⟩
        simp [hk, hk', Instr.sliceBound, asIntOf, h1, h2, Nat.not_lt.2 h1, Nat.not_lt.2 h2]
  have hml : ¬ m = l := by omega
  simp [execOp, hx, Instr.sliceAt, run_underlying (run_arrT ht), Instr.sureAddr, e1, run_sz hs, hml, Addr.add_mid]
theorem r_toArr {x : Operand} {T e : TypeId} {a : Option Addr} {m len c : Nat} (hx : ev n env x = .slice a len c) (ht : arrT P T = some (m, e)) (hm : m ≤ len) :
    Runs P w0 F0 L n env ⟨d, .sliceToArrayPointer T x, ty, pos, af, gd⟩ (.pointer a) := fun w _ => by
  simp [execOp, hx, Instr.arrayAt, run_underlying (run_arrT ht), Nat.not_lt.2 hm]

/-! ### Loads -/
theorem r_load {x : Operand} {T : TypeId} {a : Addr} {v : Value} (hx : ev n env x = .pointer (some a)) (h : ∀ w, St w0 F0 L w → (loadVar T a).run P w = .ok v w) :
    Runs P w0 F0 L n env ⟨d, .load T x, ty, pos, af, gd⟩ v := fun w hs => by
  simp [execOp, hx, Instr.loadAt, Instr.sureAddr, h w hs]

theorem cell_blk {w : World} {F : Nat → Prop} {g T : Nat} {cs : List Value} (h : (blk g T cs).on w F) (i : Nat) : w.cell? ⟨g, i, none⟩ = cs[i]? := by
  obtain ⟨_, fz, hg, _⟩ := h
  simp [World.cell?, hg]
theorem St.cellOf {w : World} {g T : Nat} {cs : List Value} {L' : List Res} (hs : St w0 F0 L w) (hp : Pick L (blk g T cs) L') (i : Nat) : w.cell? ⟨g, i, none⟩ = cs[i]? := by
  obtain ⟨F, hF, _⟩ := hs
  obtain ⟨F1, h1, _⟩ := stars_pick hp hF
  exact cell_blk h1 i
theorem run_loadVar_one {w : World} {T : TypeId} {a : Addr} {v : Value} (hr : rowT P T = some false) (hc : w.cell? a = some v) : (loadVar T a).run P w = .ok v w := by
  simp [loadVar, run_rowT hr, run_load, hc]
theorem run_loadVar_agg {w : World} {T : TypeId} {g o m : Nat} {seg : List Value} (hr : rowT P T = some true) (hs : szT P T = some m) (hl : seg.length = m) (hc : w.rangeAt g o seg) :
    (loadVar T ⟨g, o, none⟩).run P w = .ok (.agg seg.toArray) w := by
  have hl' : (loadCells ⟨g, o, none⟩ m).run P w = .ok seg.toArray w := by
    rw [← hl]; exact run_loadCells_list (P := P) w ⟨g, o, none⟩ seg (fun j v hv => by rw [Addr.add_mid]; exact hc j v hv)
  simp [loadVar, run_rowT hr, run_sz hs, hl']
theorem r_ld1 {x : Operand} {T g o T' : Nat} {cs : List Value} {L' : List Res} {v : Value} (hx : ev n env x = .pointer (some ⟨g, o, none⟩)) (hr : rowT P T = some false) (hp : Pick L (blk g T' cs) L') (hv : cs[o]? = some v) :
    Runs P w0 F0 L n env ⟨d, .load T x, ty, pos, af, gd⟩ v := r_load hx fun w hs => run_loadVar_one hr ((hs.cellOf hp o).trans hv)
theorem r_ldN {x : Operand} {T g o T' m : Nat} {cs seg : List Value} {L' : List Res} (hx : ev n env x = .pointer (some ⟨g, o, none⟩)) (hr : rowT P T = some true) (hs : szT P T = some m) (hp : Pick L (blk g T' cs) L')
    (hg : (cs.drop o).take m = seg) (hl : seg.length = m) : Runs P w0 F0 L n env ⟨d, .load T x, ty, pos, af, gd⟩ (.agg seg.toArray) :=
  r_load hx fun w hst => run_loadVar_agg hr hs hl fun j v hj => by
    rw [hst.cellOf hp, ← hj, ← hg, List.getElem?_take, List.getElem?_drop]
    rw [if_pos]
    rw [← hl]
    exact (List.getElem?_eq_some_iff.1 hj).1
/-- Of memory that was there at the start and isn't owned. -/
theorem r_ld1o {x : Operand} {T : Nat} {a : Addr} {v : Value} (hx : ev n env x = .pointer (some a)) (hr : rowT P T = some false) (hc : w0.cell? a = some v) (hn : ¬ F0 a.block) :
    Runs P w0 F0 L n env ⟨d, .load T x, ty, pos, af, gd⟩ v := r_load hx fun w ⟨F, hF, hst⟩ => run_loadVar_one hr (by
      rw [World.cell?_of_block (hst.old (World.block_lt_of_cell? w0 a hc) hn).1]; exact hc)

/-! ### New blocks, stores -/
theorem St.new {w : World} {T : TypeId} {cs : List Value} (hs : St w0 F0 L w) : St w0 F0 (blk w.heap.size T cs :: L) { w with heap := w.heap.push (.cells cs.toArray T) } := by
  obtain ⟨F, hF, hst⟩ := hs
  refine ⟨fun k => k = w.heap.size ∨ F k, ⟨fun k => k = w.heap.size, F, ⟨fun k => Iff.rfl, (0, 0), by simp, fun i _ h => by simp at h⟩, ?_, fun k => Iff.rfl, ?_⟩, ?_⟩
  · exact stars_loc hF fun k hk => by
      have := stars_lt hF k hk
      simp [Array.getElem?_push, Nat.ne_of_lt this]
  · rintro k rfl hk
    exact absurd (stars_lt hF _ hk) (Nat.lt_irrefl _)
  · have hsz := hst.size
    refine ⟨hst.os, hst.tape, hst.output, by simp; omega, fun k hk hn => ?_, ?_⟩
    · rw [← hst.block k hk hn]
      show (w.heap.push _)[k]? = _
      rw [Array.getElem?_push, if_neg (by omega)]
    · rintro k (rfl | hk)
      · exact .inr hsz
      · exact hst.own k hk
theorem gl_alloc0 {t : Option Tmp} {T : TypeId} {cs : List Value} (hw : Wt ops n env ⟨t, .alloc T, ty, pos, af, gd⟩ true) (hz : zcT P T = some cs)
    (k : ∀ b, Gl P w0 F0 (blk b T cs :: L) ops Q rest n (pu t (.pointer (some ⟨b, 0, none⟩)) env)) : Gl P w0 F0 L ops Q (⟨t, .alloc T, ty, pos, af, gd⟩ :: rest) n env :=
  gl_effx hw (fun w hs => ⟨w.heap.size, { w with heap := w.heap.push (.cells cs.toArray T) }, by
    obtain ⟨z, hz', hc⟩ := zcT_some hz
    subst hc
    simp [execOp, Instr.alloc, run_zeroT hz', newVar, newRow, newObj, Sem.run], hs.new⟩) k
theorem gl_box0 {t : Option Tmp} {T : TypeId} {x : Operand} {v : Value} {cs : List Value} (hw : Wt ops n env ⟨t, .box T x, ty, pos, af, gd⟩ true) (hx : ev n env x = v) (hc : v.cells.toList = cs)
    (k : ∀ b, Gl P w0 F0 (blk b T cs :: L) ops Q rest n (pu t (.pointer (some ⟨b, 0, none⟩)) env)) : Gl P w0 F0 L ops Q (⟨t, .box T x, ty, pos, af, gd⟩ :: rest) n env :=
  gl_effx hw (fun w hs => ⟨w.heap.size, { w with heap := w.heap.push (.cells cs.toArray T) }, by
    subst hc
    simp [execOp, hx, Instr.box, newVar, newRow, newObj, Sem.run], hs.new⟩) k

theorem gl_alloc {t : Tmp} {T : TypeId} {cs : List Value} (hw : Wt ops n env ⟨some t, .alloc T, ty, pos, af, gd⟩ true) (hz : zcT P T = some cs)
    (k : ∀ b, Gl P w0 F0 (blk b T cs :: L) ops Q rest n ((t, .pointer (some ⟨b, 0, none⟩)) :: env)) : Gl P w0 F0 L ops Q (⟨some t, .alloc T, ty, pos, af, gd⟩ :: rest) n env := gl_alloc0 hw hz k
theorem gl_box {t : Tmp} {T : TypeId} {x : Operand} {v : Value} {cs : List Value} (hw : Wt ops n env ⟨some t, .box T x, ty, pos, af, gd⟩ true) (hx : ev n env x = v) (hc : v.cells.toList = cs)
    (k : ∀ b, Gl P w0 F0 (blk b T cs :: L) ops Q rest n ((t, .pointer (some ⟨b, 0, none⟩)) :: env)) : Gl P w0 F0 L ops Q (⟨some t, .box T x, ty, pos, af, gd⟩ :: rest) n env := gl_box0 hw hx hc k

/-- cs with new in the place of as many cells from o on. -/
def updL (cs : List Value) (o : Nat) (new : List Value) : List Value := cs.take o ++ (new ++ cs.drop (o + new.length))
theorem updL_length {cs new : List Value} {o : Nat} (h : o + new.length ≤ cs.length) : (updL cs o new).length = cs.length := by
  simp [updL]; omega
theorem updL_cons {cs : List Value} {o : Nat} {v : Value} {r : List Value} (h : o < cs.length) : updL cs o (v :: r) = updL (cs.set o v) (o + 1) r := by
  simp only [updL, List.length_cons]
  rw [List.take_succ_eq_append_getElem (by simpa using h), List.append_assoc]
  congr 1
  · simp [List.take_set_of_le]
  · simp only [List.getElem_set_self, List.singleton_append, List.cons_append, List.cons.injEq, true_and]
    rw [show o + 1 + r.length = o + (r.length + 1) by omega, List.drop_set_of_lt (by omega)]
    rfl
theorem run_storeCells_blk {T : TypeId} {fz : Nat × Nat} (g o : Nat) : ∀ (vs : List Value) (i : Nat) (cs : List Value) (w : World), w.heap[g]? = some (.cells cs.toArray T fz) → okFz cs.length fz → o + i + vs.length ≤ cs.length → (∀ v ∈ vs, v.oneCell' = true) →
    (storeCells ⟨g, o, none⟩ vs i).run P w = .ok () { w with heap := w.heap.setIfInBounds g (.cells (updL cs (o + i) vs).toArray T fz) }
  | [], i, cs, w, hg, _, _, _ => by
    simp only [storeCells, Sem.run_pure]
    congr 1
    cases w
    simp only [World.mk.injEq, true_and, and_true]
    apply Array.ext_getElem?
    intro j
    simp only [updL, List.nil_append, List.length_nil, Nat.add_zero, List.take_append_drop]
    rw [Array.getElem?_setIfInBounds]
    split
    · rename_i h; subst h
      simp only at hg
      rw [hg]
      rw [if_pos (Array.getElem?_eq_some_iff.1 hg).1]
    · rfl
  | v :: r, i, cs, w, hg, hz, hl, h1 => by
    simp only [List.length_cons] at hl
    have hlt : g < w.heap.size := (Array.getElem?_eq_some_iff.1 hg).1
    have hc : w.cell? ⟨g, o + i, none⟩ = some cs[o + i] := by
      simp [World.cell?, hg]
    have hf : w.frozen? ⟨g, o + i, none⟩ = false := by
      have := hz (o + i) (by omega)
      simp only [World.frozen?, hg]
      simp only [not_and, Nat.not_lt] at this
      simp only [Bool.and_eq_false_iff, decide_eq_false_iff_not, Nat.not_le, Nat.not_lt]
      by_cases h : fz.1 ≤ o + i
      · exact .inr (this h)
      · exact .inl (by omega)
    have hset : w.setCell ⟨g, o + i, none⟩ v = { w with heap := w.heap.setIfInBounds g (.cells (cs.set (o + i) v).toArray T fz) } := by
      simp only [World.setCell]
      congr 1
      apply Array.ext_getElem?
      intro j
      rw [Array.getElem?_modify, Array.getElem?_setIfInBounds]
      by_cases h : g = j
      · subst h
        rw [if_pos rfl, if_pos rfl, if_pos hlt, hg]
        simp
      · rw [if_neg h, if_neg h]
    have ih := run_storeCells_blk (T := T) (fz := fz) g o r (i + 1) (cs.set (o + i) v) { w with heap := w.heap.setIfInBounds g (.cells (cs.set (o + i) v).toArray T fz) } (by simp [hlt]) (by simpa using hz) (by simp; omega) (fun u hu => h1 u (by simp [hu]))
    have hs : (store ((⟨g, o, none⟩ : Addr).add i) v).run P w = .ok () (w.setCell ⟨g, o + i, none⟩ v) := by
      rw [Addr.add_mid]
      simp only [run_store P w _ v _ (h1 v (by simp)), stored, hc, hf]
      rfl
    simp only [storeCells, Sem.run_bind]
    rw [hs, Result.andThen_ok, hset, ih, updL_cons (by omega)]
    simp [Nat.add_assoc]
theorem St.store {w : World} {g T o : Nat} {cs new : List Value} {L' : List Res} (hs : St w0 F0 L w) (hp : Pick L (blk g T cs) L') (hl : o + new.length ≤ cs.length) (h1 : ∀ v ∈ new, v.oneCell' = true) :
    ∃ w', (storeCells ⟨g, o, none⟩ new).run P w = .ok () w' ∧ St w0 F0 (blk g T (updL cs o new) :: L') w' := by
  obtain ⟨F, hF, hst⟩ := hs
  obtain ⟨F1, F2, ⟨hF1, fz, hg, hz⟩, h2, hE, hd⟩ := hp.stars hF
  refine ⟨_, run_storeCells_blk (P := P) g o new 0 cs w hg hz (by omega) h1, F, ⟨F1, F2, ⟨hF1, fz, ?_, ?_⟩, ?_, hE, hd⟩, ?_⟩
  · have hlt : g < w.heap.size := (Array.getElem?_eq_some_iff.1 hg).1
    simp [hlt]
  · simpa only [Nat.add_zero, updL_length hl] using hz
  · refine stars_loc h2 fun k hk => ?_
    have : ¬ g = k := fun e => hd k ((hF1 k).2 e.symm) hk
    simp [Array.getElem?_setIfInBounds, this]
  · refine ⟨hst.os, hst.tape, hst.output, by simpa using hst.size, fun k hk hn => ?_, hst.own⟩
    rw [← hst.block k hk hn]
    have : ¬ g = k := fun e => (hst.old hk hn).2 ((hE k).2 (.inl ((hF1 k).2 e.symm)))
    simp [Array.getElem?_setIfInBounds, this]
theorem gl_store0 {t : Option Tmp} {T : TypeId} {x y : Operand} {g o T' m : Nat} {cs new cs' : List Value} {L' : List Res} {v : Value} (hw : Wt ops n env ⟨t, .store T x y, ty, pos, af, gd⟩ true)
    (hx : ev n env x = .pointer (some ⟨g, o, none⟩)) (hy : ev n env y = v) (hc : v.cells.toList = new) (hs : szT P T = some m) (hm : new.length = m) (hp : Pick L (blk g T' cs) L') (hl : o + m ≤ cs.length) (h1 : ∀ u ∈ new, u.oneCell' = true)
    (hu : updL cs o new = cs') (k : Gl P w0 F0 (blk g T' cs' :: L') ops Q rest n (pu t undef env)) : Gl P w0 F0 L ops Q (⟨t, .store T x y, ty, pos, af, gd⟩ :: rest) n env :=
  gl_skip hw (fun w hst => by
    obtain ⟨w', hr, hs'⟩ := hst.store (P := P) (o := o) (new := new) hp (by omega) h1
    refine ⟨w', ?_, by rw [← hu]; exact hs'⟩
    have hv : v.cells.size = m := by rw [← hm, ← hc]; simp
    simp [execOp, hx, hy, Instr.storeAt, Instr.sureAddr, storeVar, hv, run_sz hs, hc, hr]) k

theorem gl_store {T : TypeId} {x y : Operand} {g o T' m : Nat} {cs new cs' : List Value} {L' : List Res} {v : Value} (hw : Wt ops n env ⟨none, .store T x y, ty, pos, af, gd⟩ true)
    (hx : ev n env x = .pointer (some ⟨g, o, none⟩)) (hy : ev n env y = v) (hc : v.cells.toList = new) (hs : szT P T = some m) (hm : new.length = m) (hp : Pick L (blk g T' cs) L') (hl : o + m ≤ cs.length) (h1 : ∀ u ∈ new, u.oneCell' = true)
    (hu : updL cs o new = cs') (k : Gl P w0 F0 (blk g T' cs' :: L') ops Q rest n env) : Gl P w0 F0 L ops Q (⟨none, .store T x y, ty, pos, af, gd⟩ :: rest) n env := gl_store0 hw hx hy hc hs hm hp hl h1 hu k

theorem gl_storeN {T : TypeId} {x y : Operand} {g o T' m : Nat} {cs new cs' : List Value} {L' : List Res} (hw : Wt ops n env ⟨none, .store T x y, ty, pos, af, gd⟩ true)
    (hx : ev n env x = .pointer (some ⟨g, o, none⟩)) (hy : ev n env y = .agg new.toArray) (hs : szT P T = some m) (hm : new.length = m) (hp : Pick L (blk g T' cs) L') (hl : o + m ≤ cs.length) (h1 : ∀ u ∈ new, u.oneCell' = true)
    (hu : updL cs o new = cs') (k : Gl P w0 F0 (blk g T' cs' :: L') ops Q rest n env) : Gl P w0 F0 L ops Q (⟨none, .store T x y, ty, pos, af, gd⟩ :: rest) n env := gl_store0 hw hx hy (by simp [Value.cells]) hs hm hp hl h1 hu k
theorem gl_store1 {T : TypeId} {x y : Operand} {g o T' : Nat} {cs cs' : List Value} {L' : List Res} {v : Value} (hw : Wt ops n env ⟨none, .store T x y, ty, pos, af, gd⟩ true)
    (hx : ev n env x = .pointer (some ⟨g, o, none⟩)) (hy : ev n env y = v) (h1 : v.oneCell' = true) (hs : szT P T = some 1) (hp : Pick L (blk g T' cs) L') (hl : o + 1 ≤ cs.length)
    (hu : updL cs o [v] = cs') (k : Gl P w0 F0 (blk g T' cs' :: L') ops Q rest n env) : Gl P w0 F0 L ops Q (⟨none, .store T x y, ty, pos, af, gd⟩ :: rest) n env :=
  gl_store0 hw hx hy (by cases v <;> first | rfl | (simp [Value.oneCell'] at h1)) hs rfl hp hl (by simpa using h1) hu k
theorem gl_boxN {t : Tmp} {T : TypeId} {x : Operand} {cs : List Value} (hw : Wt ops n env ⟨some t, .box T x, ty, pos, af, gd⟩ true) (hx : ev n env x = .agg cs.toArray)
    (k : ∀ b, Gl P w0 F0 (blk b T cs :: L) ops Q rest n ((t, .pointer (some ⟨b, 0, none⟩)) :: env)) : Gl P w0 F0 L ops Q (⟨some t, .box T x, ty, pos, af, gd⟩ :: rest) n env := gl_box0 hw hx (by simp [Value.cells]) k
theorem gl_box1 {t : Tmp} {T : TypeId} {x : Operand} {v : Value} (hw : Wt ops n env ⟨some t, .box T x, ty, pos, af, gd⟩ true) (hx : ev n env x = v) (h1 : v.oneCell' = true)
    (k : ∀ b, Gl P w0 F0 (blk b T [v] :: L) ops Q rest n ((t, .pointer (some ⟨b, 0, none⟩)) :: env)) : Gl P w0 F0 L ops Q (⟨some t, .box T x, ty, pos, af, gd⟩ :: rest) n env :=
  gl_box0 hw hx (by cases v <;> first | rfl | (simp [Value.oneCell'] at h1)) k

/-! ### Calls of a Go function -/
theorem e_call {f : FuncId} {xs : List Operand} {ts : Array TypeId} {vs : List Value} (hf : okCall P f = true) (hv : xs.map (ev n env) = vs) (w : World) :
    (execOp (ev n env) ⟨d, .call ⟨.value (.func f), xs.toArray, ts⟩, ty, pos, af, gd⟩).run P w = .ok (.enter f vs.toArray) w := by
  unfold okCall at hf
  cases hp : P.funcs[f]? with
  | none => simp [hp] at hf
  | some fn =>
    cases hb : fn.body with
    | none => simp [hp, hb] at hf
    | some c =>
      have hn : ¬ fn.name = "runtime.NumGoroutine" := by simpa [hp, hb] using hf
      simp [execOp, resolve, ev, Deferred.ofValue, invoke, callFunc, program, Sem.run, hp, hb, hn, hv]
end ops
end Go.Proofs.YtffkjjakceojfaaDoor
